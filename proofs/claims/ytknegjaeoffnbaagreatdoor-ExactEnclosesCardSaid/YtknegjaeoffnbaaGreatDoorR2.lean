/- Steps of the proof of the theorem in the last file. -/
import Derived.Test.YtknegjaeoffnbaaGreatDoorR1
import Derived.MapKept
import Derived.Maps.RangeRun
import Derived.Lib.ItoaLen
import Derived.Shelf.SlSortCmp.PdqK
import Derived.Ground.SlsfProg
import Derived.Test.YtknegjaeoffnbaaGreatDoorProg
set_option linter.all false
set_option maxHeartbeats 4000000
open Go.Value renaming int → aa,bool → ag
open Go.Lib renaming trimPrefix → ab,hasPrefix → aD,decDigits → aL,decDigits_length → bw,itoa → fp,compareInt → fq
open Bool renaming eq_iff_iff → ae,and_eq_true → ay,or_eq_true → bK,not_eq_true' → fb,false_or → fu
open Int renaming mul_le_mul_of_nonneg_left → af,mul_le_mul_of_nonneg_right → av,mul_comm → aA,one_mul → aJ,pow_succ → aV,emod_add_mul_ediv → bj,add_mul → bt,mul_sub → bI,mul_add → bJ,ediv_nonneg → bL,sub_add_cancel → bM,mul_nonneg → bN,mul_le_mul → bO,emod_lt_of_pos → bP,le_refl → bR,mul_assoc → bT,lt_or_le → bX,emod_nonneg → cb,ediv_lt_of_lt_mul → eb,sub_mul → ej,lt_trichotomy → eB,pow_add → eH,neg_mul → eI,mul_lt_mul_of_pos_right → eJ,eq_of_mul_eq_mul_left → eM,mul_zero → eR,mul_one → eX,toNat_natCast → ff,ediv_le_self → fi,add_assoc → fy,zero_mul → fF,ne_of_gt → fG
open List renaming take_of_length_le → ah,length_append → aj,cons_append → ak,length_set → ao,drop_of_length_le → au,nil_append → aw,length_cons → ax,mem_singleton → az,length_singleton → aB,take_succ_eq_append_getElem → aC,drop_eq_getElem_cons → aE,getElem?_toArray → aG,map_cons → aH,drop_drop → aK,take_set_of_le → aN,eq_nil_of_length_eq_zero → aR,getElem?_eq_none → aX,getElem?_eq_getElem → aY,mem_map_of_mem → ba,drop_set_of_lt → bc,getElem_mem → bf,mem_cons → bg,getElem?_append → bm,replicate → bD,drop_eq_nil_of_le → bE,length_take → bF,mem_cons_of_mem → bG,flatMap_cons → bQ,take_length → bU,not_mem_nil → bV,take_append_drop → bZ,map → ee,drop_zero → ef,drop_set → er,length_drop → eD,getElem_map → eE,range' → eF,append_nil → eG,length_erase_of_mem → eK,all_cons → eL,length_eq_zero_iff → eN,getElem?_cons_succ → eO,mem_of_mem_take → eS,mem_of_getElem? → eT,takeWhile_cons → eW,mem_cons_self → e8,all_eq_true → fe,sum_append → fg,length_nil → fh,nodup_nil → fj,set_set → fv,range → fK
open Go renaming Value → ai,World → ar,TypeId → aO,Program → aS,Operand → bz
open Nat renaming le_refl → aq,zero_le → aF,zero_add → aM,lt_or_ge → aQ,le_trans → aU,eq_zero_or_pos → aW,pow_le_pow_right → bn,add_sub_cancel_left → bC,add_assoc → bS,mul_le_mul → ei,add_sub_cancel → ey,sub_zero → eQ,add_mul → eV,pow_le_pow_left → eZ,gcd → fc,zero_mul → fC
open Rat renaming add_zero → aI,zero_add → aP,divInt → aT,add_assoc → aZ,add_comm → bW,mul_zero → fB
open List.Perm renaming refl → bh
open Go.Region renaming waitsFor → bA,ready → eu,binds → ew,waitsFor_spec → eP
open Go.MapKept renaming run_getObj_map → bB
open Go.Utf8 renaming decode → bH
open Option renaming none → bY,some → fm
open And renaming intro → ek
open Option.some renaming inj → ep
open Array renaming all_eq_true_iff_forall_mem → ez
open UInt8 renaming ofNat → eC
open List.cons renaming injEq → eU
open Go.Result renaming andThen_ok → eY
open Go.Instr renaming buildSlice → e9,findNow → fk,slice → fz,fill → fJ
open List.Pairwise renaming nil → fD
open Go.Sem renaming run_pure → fH,run_bind → fI
open List.Sublist renaming refl → fL
namespace Go.Proofs.YtknegjaeoffnbaaGreatDoor
open Go.RowKit Ig
def Nu (b:Int):Int:=if b<0∨b>64 then 3 else 0
theorem YN {a b:Int} (h:Ql [a,b]=0):a=0∧b=0:=by
 simp only [Ql] at h
 by_cases h1:a=0
 ·rw [if_pos h1] at h
  by_cases h2:b=0
  ·exact⟨h1,h2⟩
  ·rw [if_neg h2] at h;exact absurd h h2
 ·rw [if_neg h1] at h;exact absurd h h1
theorem Fw {b:Int} (h:Nu b=0):0≤b∧b≤64:=by unfold Nu at h;split at h<;>omega
def two (b:Int):Int:=2^b.toNat
theorem II {b:Int} (h1:b≤64):sz (two b)≤129:=by
 have:=H5 2 b.toNat;have e:sz 2=2:=(by decide);rw [e] at this;unfold two;omega
theorem Rg {b:Int} (h1:b≤64):JL ((two b:Int):Rat)≤129:=by
 have:=Gr (two b);have:=II h1;omega
def O4 (r:Rat) (b:Int):Rat:=aT (r*((two b:Int):Rat)+aT 1 2).floor (two b)
def Th (s:List UInt8) (b:Int):List UInt8×Int:=if Ql [Jg s,Nu b]=0 then Nd (O4 (Jj s) b) else([],Ql [Jg s,Nu b])
theorem z8 (b:Int):two b≠0:=fG (Int.pow_pos (by decide))
theorem IH:JL (aT 1 2)≤2:=by
 have:=YL (a:=1) (b:=2) (by decide)
 have e1:sz 1=1:=by decide
 have e2:sz 2=2:=by decide
 omega
theorem jL {r:Rat} {b:Int} {k:Nat} (h:JL r≤k) (h1:b≤64):sz (r*((two b:Int):Rat)+aT 1 2).floor≤k+132:=by
 have a:=J9 r ((two b:Int):Rat)
 have c:=Vc (r*((two b:Int):Rat)) (aT 1 2)
 have d:=IH
 have e:=Rg h1
 have f:=D8 (r*((two b:Int):Rat)+aT 1 2)
 omega
theorem D7 {n b:Int} {k:Nat} (h:sz n≤k) (h1:b≤64):JL (aT n (two b))≤max k 129:=by
 have:=YL (a:=n) (z8 b)
 have:=II h1
 omega
theorem Ii {w:ar} {F:Gs} {s:List UInt8} {b:Int} (hF:Fits F w) (hG:JB F) (hl:s.length≤1000000):QZ Tryz.prog 17 [tx s,.int .i64 b] w F (.tuple #[tx (Th s b).1,.int .i64 (Th s b).2]):=by
 refine QT.intro (G:=fun F=>JB F) Tryz.func17 rfl (by rfl) rfl rfl hF (fun F' hF'=>hG.le hF')<|wE<|wB rfl<|wD rfl<|QG<|wF rfl<|QH rfl (fun w F hF hGl=>MM hF hGl hl) (fun _=>wA rfl<|QH rfl (fun w F hF h9=>UQ hF ) (fun _=>QW rfl (Q8 Zn) Y7 BO rfl rfl (fun b11=>QH rfl (fun w F hF h9=>Zz hF (Q6.of (cs:=ee Qy [Jg s,Nu b]) h9.2 rfl) (by decide)) (fun _=>wD rfl<|wF rfl<|QA (QU rfl rfl rfl)<|QE<|QC ?_))))
 refine QQ rfl (fun hc=>?_) (fun hc=>?_)
 ·
  refine wF rfl<|wB rfl<|wD rfl<|QS ?_
  exact Ja () rfl (.tmp rfl (.tmp rfl .nil)) (by unfold Th;rw [if_neg (by simpa using hc)]) (fun _ _=>trivial)
 ·
  have h0:Ql [Jg s,Nu b]=0:=by simpa using hc
  have h1:=YN h0
  have hb:=Fw h1.2
  have hz:=XE h1.1
  have ht:=Rg hb.2
  have hm:=J9 (Jj s) ((two b:Int):Rat)
  have hn:=jL hz hb.2
  refine QO<|QC<|wF rfl<|QH rfl (fun w F hF h9=>Hg hF h9.1.1.1.1 (X6 h1.1).1 (by omega)) (fun x17=>wA rfl<|QH rfl (fun w F hF h9=>Af hF hb.1 hb.2) (fun g19=>QH rfl (fun w F hF ⟨⟨⟨⟨⟨⟨hGl,_⟩,_⟩,hs11⟩,_⟩,⟨h17,h17_⟩⟩,Sw⟩=>BU hF (by assumption)) (fun x20=>QH rfl (fun w F hF h9=>KX (r:=Jj s) (s:=((two b:Int):Rat)) hF ⟨h9.1.1.2.1,h9.1.1.2.2⟩ ⟨h9.2.1,h9.2.2⟩ (by omega) (by omega)) (fun x21=>QH rfl (fun w F hF h9=>CQ (r:=Jj s*((two b:Int):Rat)) hF ⟨h9.2.1,h9.2.2⟩ (by omega)) (fun g22=>wA rfl<|QH rfl (fun w F hF h9=>NJ (a:=(Jj s*((two b:Int):Rat)+aT 1 2).floor) hF h9.2 hb.1 hb.2 (by omega)) (fun x24=>QH rfl (fun w F hF h9=>Iy (r:=O4 (Jj s) b) hF h9.1.1.1.1.1.1.1.1.1.1 ⟨h9.2.1,h9.2.2⟩ (by have:=D7 hn hb.2;unfold O4;omega)) (fun _=>QA (QM rfl rfl)<|QA (QM rfl rfl)<|wB rfl<|wD rfl<|QS ?_)))))))
  exact Ja () rfl (.tmp rfl (.tmp rfl .nil)) (by unfold Th;rw [if_pos h0];rfl) (fun _ _=>trivial)
def Jm (lo hi:List UInt8):Int:=if Ql [Jg lo,Jg hi]=0 then(if Wr (Jj lo) (Jj hi)>0 then 11 else 0) else Ql [Jg lo,Jg hi]
theorem YT {lo hi:List UInt8} (h:Jm lo hi=0):Jg lo=0∧Jg hi=0∧¬ Wr (Jj lo) (Jj hi)>0:=by
 unfold Jm at h
 split at h
 ·rename_i h0
  have:=YN h0
  refine⟨this.1,this.2,?_⟩
  split at h
  ·cases h
  ·assumption
 ·rename_i h0;exact absurd h h0
theorem Yr {w:ar} {F:Gs} {lo hi:List UInt8} (hF:Fits F w) (hG:JB F) (hl:lo.length≤1000000∧hi.length≤1000000):QZ Tryz.prog 22 [.agg #[tx lo,tx hi]] w F (.int .i64 (Jm lo hi)):=by
 refine QT.intro (G:=fun F=>JB F) Tryz.func22 rfl (by rfl) rfl rfl hF (fun F' hF'=>hG.le hF')<|wE<|Q2 rfl (vs:=[_,_]) rfl (fun b1=>wD rfl<|QG<|wE<|QA (QI rfl WK Jo)<|QA (Qm rfl Jo .here .h1)<|QA (QI rfl Wh Jo)<|QA (Qm rfl Jo .here (.skip .h1))<|QW rfl (Q8 E4) Jo vW rfl rfl (fun b8=>QH rfl (fun w F hF ⟨hGl,hs8⟩=>Fv (l:=[lo,hi]) hF hGl (Q6.of (cs:=ee tx [lo,hi]) hs8 rfl) ⟨by decide,fun s hs=>by simp at hs;rcases hs with rfl | rfl;exact hl.1;exact hl.2⟩) (fun _=>wD rfl<|wF rfl<|QA (QU rfl rfl rfl)<|QE<|QC ?_)))
 refine QQ rfl (fun hc=>?_) (fun hc=>?_)
 ·
  refine wF rfl<|wD rfl<|QS ?_
  exact QP () rfl (.tmp rfl .nil) (by unfold Jm;rw [if_neg (by simpa using hc)];rfl) (fun _ _=>trivial)
 ·
  have h0:Ql [Jg lo,Jg hi]=0:=by simpa using hc
  have h1:=YN h0
  have hz1:=XE h1.1
  have hz2:=XE h1.2
  refine QO<|QC<|QG<|JV wG mixed (by kernel_rfl)<|QK (QI rfl WK Jo)<|QK (Qm rfl Jo .here .h1)<|Qd rfl (fun w F hF h9=>Hg hF h9.1.1 (X6 h1.1).1 (by omega)) (fun x15=>QK (QI rfl Wh Jo)<|QK (Qm rfl Jo .here (.skip .h1))<|Qd rfl (fun w F hF h9=>Hg hF h9.1.1.1 (X6 h1.2).1 (by omega)) (fun x18=>Qd rfl (fun w F hF h9=>SV (r:=Jj lo) (s:=Jj hi) hF ⟨h9.1.2.1,h9.1.2.2⟩ ⟨h9.2.1,h9.2.2⟩ (by omega) (by omega)) (fun _=>QK (QU rfl rfl rfl)<|Qd rfl (fun w F hF h9=>Z1 hF ) (fun _=>QK (QF rfl)<|Q3<|QC<|QS ?_))))
  exact QP () rfl (.tmp rfl .nil) (congrArg (aa .i64) (by unfold Jm;rw [if_pos h0];simp)) (fun _ _=>trivial)
structure Sp where
 lo:Fr
 hi:Fr
@[reducible] def Sp.v (x:Sp):ai:=.agg #[.int .i64 x.lo.n.s,.slice x.lo.n.q x.lo.n.n x.lo.n.cap,.int .i64 x.lo.d.s,.slice x.lo.d.q x.lo.d.n x.lo.d.cap,.int .i64 x.hi.n.s,.slice x.hi.n.q x.hi.n.n x.hi.n.cap,.int .i64 x.hi.d.s,.slice x.hi.d.q x.hi.d.n x.hi.d.cap]
def ZO (F:Gs) (x:Sp) (r:Rat×Rat):Prop:=JY F x.lo r.1∧JY F x.hi r.2
theorem ZO.le {F F':Gs} {x:Sp} {r:Rat×Rat} (h:ZO F x r) (k:Gs.le F F'):ZO F' x r:=⟨h.1.le k,h.2.le k⟩
abbrev VK (P:aS) (f:FuncId) (args:List ai) (w:ar) (F:Gs) (r:Rat×Rat):Prop:=QT P f args w F Sp.v (fun x F=>ZO F x r)
theorem KK {w:ar} {F:Gs} {lo hi:List UInt8} (hF:Fits F w) (hG:JB F) (h1:Jg lo=0) (h2:Jg hi=0) (hl:lo.length≤1000000∧hi.length≤1000000):VK Tryz.prog 113 [.agg #[tx lo,tx hi]] w F (Jj lo,Jj hi):=by
 refine QT.intro (G:=fun F=>JB F) Tryz.func113 rfl (by rfl) rfl rfl hF (fun F' hF'=>hG.le hF')<|wE<|Q2 rfl (vs:=[_,_]) rfl (fun b1=>Qg ZU (fun b2=>wC<|QG<|JV (.cons _ (.cons_cons _ .slnil)) mixed (by kernel_rfl)<|QK (QI rfl WK Jo)<|QK (Qm rfl Jo .here .h1)<|Qd rfl (fun w F hF hGl=>Hg hF hGl (X6 h1).1 (by omega)) (fun x5=>QK (QI rfl Wh Jo)<|QK (Qm rfl Jo .here (.skip .h1))<|Qd rfl (fun w F hF h9=>Hg hF h9.1 (X6 h2).1 (by omega)) (fun x8=>QK (Q7 rfl R3 ZU (.cons (vs:=[_,_,_,_]) rfl rfl rfl .h4 (.cons (vs:=[_,_,_,_]) rfl rfl rfl (.skip (.skip (.skip (.skip .h4)))) .nil)))<|JE (vs:=[_,_,_,_,_,_,_,_]) rfl rfl rfl Jq rfl .here (.cons_cons _ .slnil) (fun _ h=>h.1.1) .h8 wR<|Q3<|QC<|QS ?_))))
 exact QP ((⟨x5,x8⟩:Sp)) rfl (.Jd (c:=[_,_,_,_,_,_,_,_]) rfl Jq .here .nil) rfl (fun F h9=>⟨⟨h9.1.2.1,h9.1.2.2⟩,⟨h9.2.1,h9.2.2⟩⟩)
def V4 (r:Rat×Rat):(List UInt8×List UInt8)×Int:=if(XN r.1||XN r.2)=true then(([],[]),4) else((JN r.1,JN r.2),0)
theorem E8 {w:ar} {F:Gs} {x:Sp} {r:Rat×Rat} (hF:Fits F w) (hG:JB F) (h:ZO F x r) (hz:JL r.1≤100000000∧JL r.2≤100000000):QZ Tryz.prog 116 [x.v] w F (.tuple #[.agg #[tx (V4 r).1.1,tx (V4 r).1.2],.int .i64 (V4 r).2]):=by
 refine QT.intro (G:=fun F=>JB F∧ZO F x r) Tryz.func116 rfl (by rfl) rfl rfl hF (fun F' hF'=>⟨hG.le hF',h.le hF'⟩)<|wE<|Q2 rfl (vs:=[_,_,_,_,_,_,_,_]) rfl (fun b1=>Qg Zy (fun b2=>wD rfl<|QG ?_))
 refine VZ 11 (.bool (XN r.1||XN r.2)) ?_ ?_
 ·
  refine QB<|QA (QI rfl Zk Qe)<|QA (QJ (vs:=[_,_,_,_]) rfl Qe .u1 .h4 rfl)<|QH rfl (fun w F hF h9=>Bz (x:=x.lo) (r:=r.1) hF h9.1 ⟨h9.2.1.1,h9.2.1.2⟩ hz.1) (fun _=>wA rfl ?_)
  refine Qn (t:=7) rfl (fun hb7=>?_) (fun hb7=>?_)
  ·
   refine QN rfl rfl rfl<|QN rfl rfl rfl<|QN rfl rfl rfl<|QA (Qi rfl rfl rfl)<|QE ?_
   exact Js (exd 9 rfl rfl) (congrArg (fun b=>some (ag b)) (by simp_all)) wG (fun _ h=>h.1)
  ·
   refine QL rfl rfl<|QA (QI rfl Zw Qe)<|QL rfl rfl<|QA (QJ (vs:=[_,_,_,_]) rfl Qe .u1 (.skip (.skip (.skip (.skip .h4)))) rfl)<|QL rfl rfl<|QH rfl (fun w F hF h9=>Bz (x:=x.hi) (r:=r.2) hF h9.1.1 ⟨h9.1.2.2.1,h9.1.2.2.2⟩ hz.2) (fun _=>QA (Qh rfl rfl rfl)<|QE ?_)
   exact Js (exd 9 rfl rfl) (congrArg (fun b=>some (ag b)) (by simp_all)) wG (fun _ h=>h.1.1)
 ·
  refine QQ rfl (fun hc=>?_) (fun hc=>?_)
  ·
   refine wE<|QA (Q7 rfl Y8 Zy .nil)<|QR (vs:=[_,_]) rfl rfl rfl JU rfl .here .h2 wL<|wD rfl<|QS ?_
   exact Ja () rfl (.Jd (c:=[_,_]) rfl JU .here (.tmp rfl .nil)) (by unfold V4;rw [if_pos hc];rfl) (fun _ _=>trivial)
  ·
   refine QO<|QC<|QG<|JV (.cons _ (.cons_cons _ .slnil)) mixed (by kernel_rfl)<|QK (QI rfl Zk Qe)<|QK (QJ (vs:=[_,_,_,_]) rfl Qe .here .h4 rfl)<|Qd rfl (fun w F hF h9=>MG (x:=x.lo) (r:=r.1) hF h9.1 ⟨h9.2.1.1,h9.2.1.2⟩ hz.1) (fun _=>QK (QI rfl Zw Qe)<|QK (QJ (vs:=[_,_,_,_]) rfl Qe .here (.skip (.skip (.skip (.skip .h4)))) rfl)<|Qd rfl (fun w F hF h9=>MG (x:=x.hi) (r:=r.2) hF h9.1.1 ⟨h9.1.2.2.1,h9.1.2.2.2⟩ hz.2) (fun _=>QK (Q7 rfl Y8 Zy (.cons (vs:=[_]) rfl rfl rfl .h1 (.cons (vs:=[_]) rfl rfl rfl (.skip .h1) .nil)))<|JE (vs:=[_,_]) rfl rfl rfl JU rfl .here (.cons_cons _ .slnil) (fun _ h=>h.1.1) .h2 wL<|QK (QF rfl)<|Q3<|QC<|QS ?_))
   exact Ja () rfl (.Jd (c:=[_,_]) rfl JU .here (.tmp rfl .nil)) (by unfold V4;rw [if_neg (by rw [hc];decide)]) (fun _ _=>trivial)
def xw (r:Rat×Rat) (b:Int):Rat×Rat:=(aT (r.1*((two b:Int):Rat)).floor (two b),aT (-(-(r.2*((two b:Int):Rat))).floor) (two b))
def AT (lo hi:List UInt8) (b:Int):(List UInt8×List UInt8)×Int:=if Ql [Jm lo hi,Nu b]=0 then V4 (xw (Jj lo,Jj hi) b) else(([],[]),Ql [Jm lo hi,Nu b])
theorem Ue {w:ar} {F:Gs} {lo hi:List UInt8} {b:Int} (hF:Fits F w) (hG:JB F) (hl:lo.length≤1000000∧hi.length≤1000000):QZ Tryz.prog 18 [.agg #[tx lo,tx hi],.int .i64 b] w F (.tuple #[.agg #[tx (AT lo hi b).1.1,tx (AT lo hi b).1.2],.int .i64 (AT lo hi b).2]):=by
 refine QT.intro (G:=fun F=>JB F) Tryz.func18 rfl (by rfl) rfl rfl hF (fun F' hF'=>hG.le hF')<|wE<|Q2 rfl (vs:=[_,_]) rfl (fun b2=>Qg Zy (fun b4=>wD rfl<|QG<|wE<|QA (QJ (vs:=[_,_]) rfl JU .u1 .h2 rfl)<|QH rfl (fun w F hF hGl=>Yr (lo:=lo) (hi:=hi) hF hGl hl) (fun _=>wA rfl<|QH rfl (fun w F hF h9=>UQ hF ) (fun _=>QW rfl (Q8 Zn) Y7 BO rfl rfl (fun b13=>QH rfl (fun w F hF h9=>Zz hF (Q6.of (cs:=ee Qy [Jm lo hi,Nu b]) h9.2 rfl) (by decide)) (fun _=>wD rfl<|wF rfl<|QA (QU rfl rfl rfl)<|QE ?_))))))
 refine QC ?_
 refine QQ rfl (fun hc=>?_) (fun hc=>?_)
 ·
  refine wE<|QA (Q7 rfl Y8 Zy .nil)<|wA rfl<|QR (vs:=[_,_]) rfl rfl rfl JU rfl .here .h2 wL<|wD rfl<|QS ?_
  exact Ja () rfl (.Jd (c:=[_,_]) rfl JU .here (.tmp rfl .nil)) (by unfold AT;rw [if_neg (by simpa using hc)];rfl) (fun _ _=>trivial)
 ·
  have h0:Ql [Jm lo hi,Nu b]=0:=by simpa using hc
  have h1:=YN h0
  have hok:=YT h1.1
  have hb:=Fw h1.2
  have hz1:=XE hok.1
  have hz2:=XE hok.2.1
  have ht:=Rg hb.2
  have hm1:=J9 (Jj lo) ((two b:Int):Rat)
  have hm2:=J9 (Jj hi) ((two b:Int):Rat)
  have hf1:=D8 (Jj lo*((two b:Int):Rat))
  have hf2:=D8 (-(Jj hi*((two b:Int):Rat)))
  rw [GB] at hf2
  have hg1:=D7 (n:=(Jj lo*((two b:Int):Rat)).floor) (k:=2529) (by omega) hb.2
  have hg2:=D7 (n:=-(-(Jj hi*((two b:Int):Rat))).floor) (k:=2529) (by rw [Yd];omega) hb.2
  refine QO<|QC<|wE<|QA (QJ (vs:=[_,_]) rfl JU .u1 .h2 rfl)<|QH rfl (fun w F hF h9=>KK hF h9.1.1.1.1 hok.1 hok.2.1 hl) (fun x20=>wA rfl<|QH rfl (fun w F hF h9=>Af hF hb.1 hb.2) (fun g22=>QH rfl (fun w F hF ⟨⟨⟨⟨⟨⟨hGl,_⟩,_⟩,hs13⟩,_⟩,⟨⟨h20,h20_⟩,⟨h20a,h20b⟩⟩⟩,h22⟩=>BU hF (by assumption)) (fun x23=>Qg ZU (fun b7=>Qg Xs (fun b8=>QR (vs:=[_,_,_,_,_,_,_,_]) rfl rfl rfl Jq rfl .u1 .h8 wR<|QR (vs:=[_,_,_,_]) rfl rfl rfl Qe rfl .here .h4 wN<|wC<|QG<|JV (.cons_cons _ (.cons_cons _ (.cons _ (.cons_cons _ .slnil)))) mixed (by kernel_rfl)<|QK (QI rfl Zk Qe)<|QK (QJ (vs:=[_,_,_,_]) rfl Qe .u1 .h4 rfl)<|QK (QJ (vs:=[_,_,_,_]) rfl Qe .here .h4 rfl)<|Qd rfl (fun w F hF h9=>KX (r:=Jj lo) (s:=((two b:Int):Rat)) hF ⟨h9.1.1.2.1.1,h9.1.1.2.1.2⟩ ⟨h9.2.1,h9.2.2⟩ (by omega) (by omega)) (fun x27=>Qd rfl (fun w F hF h9=>Nj (r:=Jj lo*((two b:Int):Rat)) hF ⟨h9.2.1,h9.2.2⟩ (by omega)) (fun g28=>QK (QD rfl)<|Qd rfl (fun w F hF h9=>NJ (a:=(Jj lo*((two b:Int):Rat)).floor) hF h9.2 hb.1 hb.2 (by omega)) (fun x30=>QK (QI rfl Zw Qe) ?_))))))))
  refine QK (QJ (vs:=[_,_,_,_]) rfl Qe .u1 (.skip (.skip (.skip (.skip .h4)))) rfl)<|QK (QJ (vs:=[_,_,_,_]) rfl Qe .here .h4 rfl)<|Qd rfl (fun w F hF h9=>KX (r:=Jj hi) (s:=((two b:Int):Rat)) hF ⟨h9.1.1.1.1.1.2.2.1,h9.1.1.1.1.1.2.2.2⟩ ⟨h9.1.1.1.2.1,h9.1.1.1.2.2⟩ (by omega) (by omega)) (fun x34=>Qd rfl (fun w F hF h9=>jn (r:=Jj hi*((two b:Int):Rat)) hF ⟨h9.2.1,h9.2.2⟩ (by omega)) (fun g35=>QK (QD rfl)<|Qd rfl (fun w F hF h9=>NJ (a:=-(-(Jj hi*((two b:Int):Rat))).floor) hF h9.2 hb.1 hb.2 (by rw [Yd];omega)) (fun x37=>QK (Q7 rfl R3 ZU (.cons (vs:=[_,_,_,_]) rfl rfl rfl .h4 (.cons (vs:=[_,_,_,_]) rfl rfl rfl (.skip (.skip (.skip (.skip .h4)))) .nil)))<|Qd rfl (fun w F hF h9=>E8 (x:=⟨x30,x37⟩) (r:=xw (Jj lo,Jj hi) b) hF h9.1.1.1.1.1.1.1.1.1.1.1.1.1 ⟨⟨h9.1.1.1.2.1,h9.1.1.1.2.2⟩,⟨h9.2.1,h9.2.2⟩⟩ ⟨aU hg1 (by decide),aU hg2 (by decide)⟩) (fun _=>QK (QM rfl rfl)<|QK (QM rfl rfl)<|JE (vs:=[_,_]) rfl rfl rfl JU rfl .u2 (.cons_cons _ (.cons_cons _ (.cons_cons _ .slnil))) (fun _ h=>h.1.1.1.1.1.1.1) .h2 wL<|QK (QF rfl)<|Q3<|QC<|QS ?_))))
  exact Ja () rfl (.Jd (c:=[_,_]) rfl JU .u2 (.tmp rfl .nil)) (by unfold AT;rw [if_pos h0];rfl) (fun _ _=>trivial)
def ZJ (s:Rat×Rat) (x:Rat):Rat×Rat:=(if Wr x s.1<0 then x else s.1,if Wr x s.2>0 then x else s.2)
def YH (r:Rat) (l:List Rat):Rat×Rat:=l.foldl ZJ (r,r)
def Up (x:Fr):List ai:=[.int .i64 x.n.s,.slice x.n.q x.n.n x.n.cap,.int .i64 x.d.s,.slice x.d.q x.d.n x.d.cap]
theorem SS {α:Type} {f:α→List ai} {k:Nat} (hf:∀ x,(f x).length=k):∀ (l:List α) (i j:Nat) (h:i<l.length),j<k→(l.flatMap f)[i*k+j]?=(f l[i])[j]?
 |[],_,_,h,_=>by simp at h
 |x::l,0,j,_,hj=>by
  rw [bQ,fC,aM,bm,if_pos (by rw [hf];exact hj)];rfl
 |x::l,i+1,j,h,hj=>by
  rw [bQ,bm,if_neg (by rw [hf,eV];omega),hf]
  have:=SS hf l i j (by simpa using h) hj
  rw [show(i+1)*k+j - k=i*k+j by rw [eV];omega,this];rfl
theorem I0 {α:Type} {f:α→List ai} {k:Nat} (hf:∀ x,(f x).length=k) (l:List α):(l.flatMap f).length=l.length*k:=by
 induction l with
 |nil=>simp
 |cons x l ih=>rw [bQ,aj,hf,ih,ax,eV];omega
theorem Ls {s:Rat×Rat} {x:Rat} {k:Nat} (h:JL s.1≤k∧JL s.2≤k) (hx:JL x≤k):JL (ZJ s x).1≤k∧JL (ZJ s x).2≤k:=by
 unfold ZJ
 refine⟨?_,?_⟩
 ·show JL (if _ then _ else _)≤k
  split
  ·exact hx
  ·exact h.1
 ·show JL (if _ then _ else _)≤k
  split
  ·exact hx
  ·exact h.2
theorem HK {k:Nat}:∀ (l:List Rat) (s:Rat×Rat),(JL s.1≤k∧JL s.2≤k)→(∀ x∈l,JL x≤k)→JL (l.foldl ZJ s).1≤k∧JL (l.foldl ZJ s).2≤k
 |[],_,h,_=>h
 |x::l,s,h,hx=>HK l (ZJ s x) (Ls h (hx x (by simp))) (fun y hy=>hx y (by simp [hy]))
structure ke (n:Nat) (l:List Rat) (r:Rat×Rat) where
 i:Nat
 x:Sp
 s:Rat×Rat
 le:i≤n
 h:s=(l.take i).foldl ZJ r
theorem Ph {l:List Rat} {i:Nat} (hi:i<l.length) (r:Rat×Rat):(l.take (i+1)).foldl ZJ r=ZJ ((l.take i).foldl ZJ r) l[i]:=by
 rw [aC hi,List.foldl_append];rfl
theorem Kb {w:ar} {F:Gs} {x:Fr} {r:Rat} {q:Option Addr} {n c:Nat} {ps:List (Fr×Rat)} (hF:Fits F w) (h:JY F x r) (hR:Q6 F q n 4 (ps.flatMap (fun p=>Up p.1))) (hP:∀ p∈ps,JY F p.1 p.2) (hn:ps.length=n) (hb:n≤1000000) (hz:JL r≤50000000∧∀ p∈ps,JL p.2≤50000000) :
  VK Tryz.prog 152 [x.v,.slice q n c] w F (YH r (ps.map (·.2))):=by
 have hzl:∀ y∈ps.map (·.2),JL y≤50000000:=fun y hy=>by obtain ⟨p,hp,rfl⟩:=List.mem_map.1 hy;exact hz.2 p hp
 have hml:(ps.map (·.2)).length=n:=by simpa using hn
 refine QT.intro (G:=fun F=>JY F x r∧Q6 F q n 4 (ps.flatMap (fun p=>Up p.1))∧(∀ p∈ps,JY F p.1 p.2)) Tryz.func152 rfl (by rfl) rfl rfl hF (fun F' hF'=>⟨h.le hF',hR.le hF',fun p hp=>(hP p hp).le hF'⟩)<|wE<|Q2 rfl (vs:=[_,_,_,_]) rfl (fun b2=>Qg ZU (fun b4=>wC<|wE<|QA (QJ (vs:=[_,_,_,_]) rfl Qe .u1 .h4 rfl)<|QA (QJ (vs:=[_,_,_,_]) rfl Qe .u1 .h4 rfl)<|QA (Q7 rfl R3 ZU (.cons (vs:=[_,_,_,_]) rfl rfl rfl .h4 (.cons (vs:=[_,_,_,_]) rfl rfl rfl (.skip (.skip (.skip (.skip .h4)))) .nil)))<|Qg ZU (fun b5=>QR (vs:=[_,_,_,_,_,_,_,_]) rfl rfl rfl Jq rfl .here .h8 wR<|wC<|QG<|wF rfl<|QA (Qj rfl W2)<|wA rfl<|wC<|QX ?_)))
 refine Xb (ι:=ke n (ps.map (·.2)) (r,r)) (fun i=>[(4,.pointer (some ⟨b4,0,none⟩)),(5,.pointer (some ⟨b5,0,none⟩)),(11,.slice q n c),(12,.int .i64 n),(13,.int .i64 i.i)]) (fun i=>[(b5,.cells #[.int .i64 i.x.lo.n.s,.slice i.x.lo.n.q i.x.lo.n.n i.x.lo.n.cap,.int .i64 i.x.lo.d.s,.slice i.x.lo.d.q i.x.lo.d.n i.x.lo.d.cap,.int .i64 i.x.hi.n.s,.slice i.x.hi.n.q i.x.hi.n.n i.x.hi.n.cap,.int .i64 i.x.hi.d.s,.slice i.x.hi.d.q i.x.hi.d.n i.x.hi.d.cap] 138 (0,0)),(b4,.cells #[.int .i64 0,.slice none 0 0,.int .i64 0,.slice none 0 0,.int .i64 0,.slice none 0 0,.int .i64 0,.slice none 0 0] 138 (0,0))]) (fun i F=>ZO F i.x i.s∧Q6 F q n 4 (ps.flatMap (fun p=>Up p.1))∧(∀ p∈ps,JY F p.1 p.2)) (fun i=>n - i.i)
   ⟨0,⟨x,x⟩,(r,r),aF _,rfl⟩ wO (.cons_cons _ (.cons_cons _ (.cons _ wG))) (fun F ⟨hX,hR,hP⟩=>⟨⟨hX,hX⟩,hR,hP⟩) (fun i=>?_)
 have hle:=i.le
 have hsi:JL i.s.1≤50000000∧JL i.s.2≤50000000:=by rw [i.h];exact HK _ _ ⟨hz.1,hz.1⟩ (fun y hy=>hzl y (eS hy))
 refine wE<|QA (QU rfl rfl rfl)<|wC<|QG ?_
 refine QQ rfl (fun hc=>?_) (fun hc=>?_)
 ·
  have hi:i.i<n:=by simp at hc;omega
  have hil:i.i<ps.length:=by omega
  have hzi:=hz.2 _ (bf hil)
  refine ZA _ (fun w F hF h=>h.2.1.ptr (by omega)) (fun hq=>?_)
  obtain ⟨qb,qo,rfl⟩:=hq
  refine QO<|QC<|QG<|QX<|wE<|QA (Qw rfl rfl W2 Qe hi) ?_
  refine QA (DZ (vs:=Up ps[i.i].1) rfl Qe (fun F h=>h.2.1) (by omega) rfl (fun j v hv=>by rw [SS (f:=fun p:Fr×Rat=>Up p.1) (k:=4) (fun _=>rfl) ps i.i j hil (by rcases aQ j 4 with g | g;exact g;rw [aX (by simpa [Up] using g)] at hv;cases hv)];exact hv)) ?_
  refine Qg Xs (fun b7=>QR (vs:=[_,_,_,_]) rfl rfl rfl Qe rfl .here .h4 wN<|QE<|QC ?_)
  refine Ky (ι:=Fr) (fun _=>[(4,.pointer (some ⟨b4,0,none⟩)),(5,.pointer (some ⟨b5,0,none⟩)),(7,.pointer (some ⟨b7,0,none⟩)),(11,.slice (some ⟨qb,qo,none⟩) n c),(12,.int .i64 n),(13,.int .i64 i.i)]) (fun y=>(b7,.cells #[.int .i64 ps[i.i].1.n.s,.slice ps[i.i].1.n.q ps[i.i].1.n.n ps[i.i].1.n.cap,.int .i64 ps[i.i].1.d.s,.slice ps[i.i].1.d.q ps[i.i].1.d.n ps[i.i].1.d.cap] 130 (0,0))::[(b5,.cells #[.int .i64 y.n.s,.slice y.n.q y.n.n y.n.cap,.int .i64 y.d.s,.slice y.d.q y.d.n y.d.cap,.int .i64 i.x.hi.n.s,.slice i.x.hi.n.q i.x.hi.n.n i.x.hi.n.cap,.int .i64 i.x.hi.d.s,.slice i.x.hi.d.q i.x.hi.d.n i.x.hi.d.cap] 138 (0,0)),(b4,.cells #[.int .i64 0,.slice none 0 0,.int .i64 0,.slice none 0 0,.int .i64 0,.slice none 0 0,.int .i64 0,.slice none 0 0] 138 (0,0))])
    (fun y F=>ZO F ⟨y,i.x.hi⟩ (if Wr ps[i.i].2 i.s.1<0 then ps[i.i].2 else i.s.1,i.s.2)∧Q6 F (some ⟨qb,qo,none⟩) n 4 (ps.flatMap (fun p=>Up p.1))∧(∀ p∈ps,JY F p.1 p.2)) ?_ ?_
  ·
   refine wE<|QA (QJ (vs:=[_,_,_,_]) rfl Qe .here .h4 rfl)<|QA (QI rfl Zk Qe)<|QA (QJ (vs:=[_,_,_,_]) rfl Qe .u1 .h4 rfl)<|QH rfl (fun w F hF h9=>SV (x:=ps[i.i].1) (y:=i.x.lo) (r:=ps[i.i].2) (s:=i.s.1) hF (h9.2.2 _ (bf hil)) h9.1.1 (by omega) (by omega)) (fun _=>QA (QU rfl rfl rfl)<|QE<|QC ?_)
   refine QQ rfl (fun hc21=>?_) (fun hc21=>?_)
   ·
    refine QB<|QA (QJ (vs:=[_,_,_,_]) rfl Qe .here .h4 rfl)<|QA (QI rfl Zk Qe)<|QR (vs:=[_,_,_,_]) rfl rfl rfl Qe rfl .u1 .h4 wN<|QE ?_
    exact J0 ps[i.i].1 wP wG (fun F ⟨⟨hS,hR,hP⟩,_⟩=>⟨⟨by show JY F _ (if _ then _ else _);rw [if_pos (wI hc21)];exact hP _ (bf hil),hS.2⟩,hR,hP⟩)
   ·
    refine QO ?_
    exact J0 i.x.lo wP wG (fun F ⟨⟨hS,hR,hP⟩,_⟩=>⟨⟨by show JY F _ (if _ then _ else _);rw [if_neg (wJ hc21)];exact hS.1,hS.2⟩,hR,hP⟩)
  ·intro xg5
   refine wE<|QA (QJ (vs:=[_,_,_,_]) rfl Qe .here .h4 rfl)<|QA (QI rfl Zw Qe)<|QA (QJ (vs:=[_,_,_,_]) rfl Qe .u1 (.skip (.skip (.skip (.skip .h4)))) rfl)<|QH rfl (fun w F hF h9=>SV (x:=ps[i.i].1) (y:=i.x.hi) (r:=ps[i.i].2) (s:=i.s.2) hF (h9.2.2 _ (bf hil)) h9.1.2 (by omega) (by omega)) (fun _=>QA (QU rfl rfl rfl)<|QE<|QC ?_)
   refine QQ rfl (fun hc28=>?_) (fun hc28=>?_)
   ·
    refine QB<|QA (QJ (vs:=[_,_,_,_]) rfl Qe .here .h4 rfl)<|QA (QI rfl Zw Qe)<|QR (vs:=[_,_,_,_]) rfl rfl rfl Qe rfl .u1 (.skip (.skip (.skip (.skip .h4)))) wN<|QE<|Qk<|QC<|QB<|QA (Qs rfl rfl (by omega))<|wA rfl<|QE ?_
    exact Qo (⟨i.i+1,⟨xg5,ps[i.i].1⟩,ZJ i.s ps[i.i].2,by omega,by rw [Ph (by omega),← i.h,eE]⟩:ke n (ps.map (·.2)) (r,r)) (by show n - (i.i+1)<n - i.i;omega) wO (.cons _ wG) (fun F ⟨⟨hS,hR,hP⟩,_⟩=>⟨⟨hS.1,by show JY F _ (if _ then _ else _);rw [if_pos (wI hc28)];exact hP _ (bf hil)⟩,hR,hP⟩)
   ·
    refine QO<|Qk<|QC<|QB<|QA (Qs rfl rfl (by omega))<|wA rfl<|QE ?_
    exact Qo (⟨i.i+1,⟨xg5,i.x.hi⟩,ZJ i.s ps[i.i].2,by omega,by rw [Ph (by omega),← i.h,eE]⟩:ke n (ps.map (·.2)) (r,r)) (by show n - (i.i+1)<n - i.i;omega) wO (.cons _ wG) (fun F ⟨⟨hS,hR,hP⟩,_⟩=>⟨⟨hS.1,by show JY F _ (if _ then _ else _);rw [if_neg (wJ hc28)];exact hS.2⟩,hR,hP⟩)
 ·
  refine Qz ?_
  repeat (first | refine Qb ?_ | refine QV (by rfl) ?_)
  refine Qc<|QC<|wE<|QA (QJ (vs:=[_,_,_,_,_,_,_,_]) rfl Jq .here .h8 rfl)<|QR (vs:=[_,_,_,_,_,_,_,_]) rfl rfl rfl Jq rfl .u1 .h8 wR<|wC<|QS ?_
  exact QP (i.x) rfl (.Jd (c:=[_,_,_,_,_,_,_,_]) rfl Jq .u1 .nil) rfl (fun F h=>by have e:=i.h;rw [ah (by simp at hc;omega)] at e;show ZO F i.x (List.foldl ZJ (r,r) _);rw [← e];exact h.1)
theorem qd {w:ar} {F:Gs} {x y:Sp} {a b:Rat×Rat} (hF:Fits F w) (h:ZO F x a) (h':ZO F y b) (ha:JL a.1≤100000000∧JL a.2≤100000000) (hb:JL b.1≤100000000∧JL b.2≤100000000):VK Tryz.prog 146 [x.v,y.v] w F (a.1+b.1,a.2+b.2):=by
 refine QT.intro (G:=fun F=>ZO F x a∧ZO F y b) Tryz.func146 rfl (by rfl) rfl rfl hF (fun F' hF'=>⟨h.le hF',h'.le hF'⟩)<|wE<|Q2 rfl (vs:=[_,_,_,_,_,_,_,_]) rfl (fun b2=>Q2 rfl (vs:=[_,_,_,_,_,_,_,_]) rfl (fun b3=>Qg ZU (fun b4=>wC<|QG<|JV (.cons _ (.cons_cons _ (.cons_cons _ .slnil))) mixed (by kernel_rfl)<|QK (QI rfl Zk Qe)<|QK (QJ (vs:=[_,_,_,_]) rfl Qe .u1 .h4 rfl)<|QK (QI rfl Zk Qe)<|QK (QJ (vs:=[_,_,_,_]) rfl Qe .here .h4 rfl)<|Qd rfl (fun w F hF h9=>Eo (x:=x.lo) (y:=y.lo) hF h9.1.1 h9.2.1 ha.1 hb.1) (fun x9=>QK (QI rfl Zw Qe)<|QK (QJ (vs:=[_,_,_,_]) rfl Qe .u1 (.skip (.skip (.skip (.skip .h4)))) rfl)<|QK (QI rfl Zw Qe)<|QK (QJ (vs:=[_,_,_,_]) rfl Qe .here (.skip (.skip (.skip (.skip .h4)))) rfl)<|Qd rfl (fun w F hF h9=>Eo (x:=x.hi) (y:=y.hi) hF h9.1.1.2 h9.1.2.2 ha.2 hb.2) (fun x14=>QK (Q7 rfl R3 ZU (.cons (vs:=[_,_,_,_]) rfl rfl rfl .h4 (.cons (vs:=[_,_,_,_]) rfl rfl rfl (.skip (.skip (.skip (.skip .h4)))) .nil)))<|JE (vs:=[_,_,_,_,_,_,_,_]) rfl rfl rfl Jq rfl .here (.cons_cons _ (.cons_cons _ .slnil)) (fun _ h=>h.1.1) .h8 wR<|Q3<|QC<|QS ?_)))))
 exact QP (⟨x9,x14⟩:Sp) rfl (.Jd (c:=[_,_,_,_,_,_,_,_]) rfl Jq .here .nil) rfl (fun F ⟨⟨⟨hA,hB⟩,⟨h9,h9_⟩⟩,⟨h14,h14_⟩⟩=>⟨⟨h9,h9_⟩,⟨h14,h14_⟩⟩)
def YK (a b:Rat×Rat):Rat×Rat:=YH (a.1*b.1) [a.1*b.2,a.2*b.1,a.2*b.2]
theorem TA {w:ar} {F:Gs} {x y:Sp} {a b:Rat×Rat} (hF:Fits F w) (h:ZO F x a) (h':ZO F y b) (ha:JL a.1≤20000000∧JL a.2≤20000000) (hb:JL b.1≤20000000∧JL b.2≤20000000):VK Tryz.prog 148 [x.v,y.v] w F (YK a b):=by
 have z1:=J9 a.1 b.1
 have z2:=J9 a.1 b.2
 have z3:=J9 a.2 b.1
 have z4:=J9 a.2 b.2
 refine QT.intro (G:=fun F=>ZO F x a∧ZO F y b) Tryz.func148 rfl (by rfl) rfl rfl hF (fun F' hF'=>⟨h.le hF',h'.le hF'⟩)<|wE<|Q2 rfl (vs:=[_,_,_,_,_,_,_,_]) rfl (fun b2=>Q2 rfl (vs:=[_,_,_,_,_,_,_,_]) rfl (fun b3=>Qg ZU (fun b4=>wC<|QG<|JV (.cons _ (.cons_cons _ (.cons_cons _ .slnil))) mixed (by kernel_rfl)<|QK (QI rfl Zk Qe)<|QK (QJ (vs:=[_,_,_,_]) rfl Qe .u1 .h4 rfl)<|QK (QI rfl Zk Qe)<|QK (QJ (vs:=[_,_,_,_]) rfl Qe .here .h4 rfl)<|Qd rfl (fun w F hF h9=>KX (x:=x.lo) (y:=y.lo) hF h9.1.1 h9.2.1 (by omega) (by omega)) (fun x9=>QK (QI rfl Zk Qe)<|QK (QJ (vs:=[_,_,_,_]) rfl Qe .u1 .h4 rfl)<|QK (QI rfl Zw Qe)<|QK (QJ (vs:=[_,_,_,_]) rfl Qe .here (.skip (.skip (.skip (.skip .h4)))) rfl)<|Qd rfl (fun w F hF h9=>KX (x:=x.lo) (y:=y.hi) hF h9.1.1.1 h9.1.2.2 (by omega) (by omega)) (fun x14=>QK (QI rfl Zw Qe)<|QK (QJ (vs:=[_,_,_,_]) rfl Qe .u1 (.skip (.skip (.skip (.skip .h4)))) rfl)<|QK (QI rfl Zk Qe)<|QK (QJ (vs:=[_,_,_,_]) rfl Qe .here .h4 rfl)<|Qd rfl (fun w F hF h9=>KX (x:=x.hi) (y:=y.lo) hF h9.1.1.1.2 h9.1.1.2.1 (by omega) (by omega)) (fun x19=>?_))))))
 refine QK (QI rfl Zw Qe)<|QK (QJ (vs:=[_,_,_,_]) rfl Qe .u1 (.skip (.skip (.skip (.skip .h4)))) rfl)<|QK (QI rfl Zw Qe)<|QK (QJ (vs:=[_,_,_,_]) rfl Qe .here (.skip (.skip (.skip (.skip .h4)))) rfl)<|Qd rfl (fun w F hF h9=>KX (x:=x.hi) (y:=y.hi) hF h9.1.1.1.1.2 h9.1.1.1.2.2 (by omega) (by omega)) (fun x24=>?_)
 refine Ju rfl (Q8 W2) Qe Xs rfl rfl (fun b25=>?_) (fun w h=>h.imp (.cons _ wG) (fun F h=>h.1.1.1.1))
 refine Qd rfl (fun w F hF ⟨⟨⟨⟨⟨⟨hA,hB⟩,⟨h9,h9_⟩⟩,⟨h14,h14_⟩⟩,⟨Sw,h19_⟩⟩,⟨h24,h24_⟩⟩,hs25⟩=>Kb (ps:=[(x14,a.1*b.2),(x19,a.2*b.1),(x24,a.2*b.2)]) hF ⟨h9,h9_⟩ (Q6.of (cs:=List.flatMap (fun p=>Up p.1) [(x14,a.1*b.2),(x19,a.2*b.1),(x24,a.2*b.2)]) hs25 rfl) (fun p hp=>by
  simp only [bg,bV,or_false] at hp
  rcases hp with rfl | rfl | rfl
  ·exact⟨h14,h14_⟩
  ·exact⟨Sw,h19_⟩
  ·exact⟨h24,h24_⟩) rfl (by decide) ⟨by omega,fun p hp=>by
  simp only [bg,bV,or_false] at hp
  rcases hp with rfl | rfl | rfl<;>dsimp only<;>omega⟩) (fun x26=>?_)
 refine JE (vs:=[_,_,_,_,_,_,_,_]) rfl rfl rfl Jq rfl .here (.cons_cons _ (.cons_cons _ .slnil)) (fun _ h=>h.1.1.1.1.1.1) .h8 wR<|Q3<|QC<|QS ?_
 exact QP (x26) rfl (.Jd (c:=[_,_,_,_,_,_,_,_]) rfl Jq .here .nil) rfl (fun F h=>h.2)
def Bk (op:Rat×Rat→Rat×Rat→Rat×Rat) (a b:List UInt8×List UInt8):(List UInt8×List UInt8)×Int :=
 if Ql [Jm a.1 a.2,Jm b.1 b.2]=0 then V4 (op (Jj a.1,Jj a.2) (Jj b.1,Jj b.2)) else(([],[]),Ql [Jm a.1 a.2,Jm b.1 b.2])
def short (a:List UInt8×List UInt8):Prop:=a.1.length≤1000000∧a.2.length≤1000000
theorem yZ {w:ar} {F:Gs} {a b:List UInt8×List UInt8} {f:Nat} {op:Rat×Rat→Rat×Rat→Rat×Rat} (hF:Fits F w) (hG:JB F) (ha:short a) (hb:short b)
  (hop:∀ w F x y r s,Fits F w→ZO F x r→ZO F y s→(JL r.1≤2400∧JL r.2≤2400)→(JL s.1≤2400∧JL s.2≤2400)→VK Tryz.prog f [x.v,y.v] w F (op r s)∧(JL (op r s).1≤100000000∧JL (op r s).2≤100000000)) :
  QZ Tryz.prog 145 [.agg #[tx a.1,tx a.2],.agg #[tx b.1,tx b.2],.func (.func f) #[] #[]] w F (.tuple #[.agg #[tx (Bk op a b).1.1,tx (Bk op a b).1.2],.int .i64 (Bk op a b).2]):=by
 refine QT.intro (G:=fun F=>JB F) Tryz.func145 rfl (by rfl) rfl rfl hF (fun F' hF'=>hG.le hF')<|wE<|Q2 rfl (vs:=[_,_]) rfl (fun b3=>Q2 rfl (vs:=[_,_]) rfl (fun b4=>Qg Zy (fun b6=>wD rfl<|QG<|QG<|JV wG mixed (by kernel_rfl)<|QK (QJ (vs:=[_,_]) rfl JU .u2 .h2 rfl)<|Qd rfl (fun w F hF hGl=>Yr (lo:=a.1) (hi:=a.2) hF hGl ha) (fun _=>QK (QJ (vs:=[_,_]) rfl JU .u1 .h2 rfl)<|Qd rfl (fun w F hF h9=>Yr (lo:=b.1) (hi:=b.2) hF h9.1 hb) (fun _=>?_)))))
 refine Ju rfl (Q8 Zn) Y7 BO rfl rfl (fun b13=>?_) (fun w h=>h.Bu fun F h=>h.1.1)
 refine Qd rfl (fun w F hF h9=>Zz hF (Q6.of (cs:=ee Qy [Jm a.1 a.2,Jm b.1 b.2]) h9.2 rfl) (by decide)) (fun _=>QK (QF rfl)<|Q3<|QC<|wF rfl<|QA (QU rfl rfl rfl)<|QE<|QC ?_)
 refine QQ rfl (fun hc=>?_) (fun hc=>?_)
 ·
  refine wE<|QA (Q7 rfl Y8 Zy .nil)<|wA rfl<|QR (vs:=[_,_]) rfl rfl rfl JU rfl .here .h2 wL<|wD rfl<|QS ?_
  exact Ja () rfl (.Jd (c:=[_,_]) rfl JU .here (.tmp rfl .nil)) (by unfold Bk;rw [if_neg (by simpa using hc)];rfl) (fun _ _=>trivial)
 ·
  have h0:Ql [Jm a.1 a.2,Jm b.1 b.2]=0:=by simpa using hc
  have h1:=YN h0
  have hoka:=YT h1.1
  have hokb:=YT h1.2
  refine QO<|QC<|QG<|JV (.cons _ (.cons_cons _ (.cons_cons _ .slnil))) mixed (by kernel_rfl)<|QK (QD rfl)<|QK (QJ (vs:=[_,_]) rfl JU .u1 .h2 rfl)<|Qd rfl (fun w F hF h9=>KK hF h9.1.1.1.1 hoka.1 hoka.2.1 ha) (fun x21=>QK (QJ (vs:=[_,_]) rfl JU .here .h2 rfl)<|Qd rfl (fun w F hF h9=>KK hF h9.1.1.1.1.1 hokb.1 hokb.2.1 hb) (fun x23=>Ub (c1:=[]) (c2:=[]) rfl rfl (fun w F hF h=>(hop w F x21 x23 _ _ hF h.1.2 h.2 ⟨XE hoka.1,XE hoka.2.1⟩ ⟨XE hokb.1,XE hokb.2.1⟩).1) (fun x24=>Qd rfl (fun w F hF h=>E8 (x:=x24) (r:=op (Jj a.1,Jj a.2) (Jj b.1,Jj b.2)) hF h.1.1.1.1.1.1.1 h.2 (hop w F x21 x23 _ _ hF h.1.1.2 h.1.2 ⟨XE hoka.1,XE hoka.2.1⟩ ⟨XE hokb.1,XE hokb.2.1⟩).2) (fun _=>QK (QM rfl rfl)<|QK (QM rfl rfl)<|JE (vs:=[_,_]) rfl rfl rfl JU rfl .here (.cons_cons _ (.cons_cons _ .slnil)) (fun _ h=>h.1.1.1.1) .h2 wL<|QK (QF rfl)<|Q3<|QC<|QS ?_))))
  exact Ja () rfl (.Jd (c:=[_,_]) rfl JU .here (.tmp rfl .nil)) (by unfold Bk;rw [if_pos h0];rfl) (fun _ _=>trivial)
theorem AX {w:ar} {F:Gs} {a b:List UInt8×List UInt8} (hF:Fits F w) (hG:JB F) (ha:short a) (hb:short b) :
  QZ Tryz.prog 47 [.agg #[tx a.1,tx a.2],.agg #[tx b.1,tx b.2]] w F (.tuple #[.agg #[tx (Bk YK a b).1.1,tx (Bk YK a b).1.2],.int .i64 (Bk YK a b).2]):=by
 refine QT.intro (G:=fun F=>JB F) Tryz.func47 rfl (by rfl) rfl rfl hF (fun F' hF'=>hG.le hF')<|wE<|Q2 rfl (vs:=[_,_]) rfl (fun b2=>Q2 rfl (vs:=[_,_]) rfl (fun b3=>Qg Zy (fun b4=>wD rfl<|wE<|QA (QJ (vs:=[_,_]) rfl JU .u2 .h2 rfl)<|QA (QJ (vs:=[_,_]) rfl JU .u1 .h2 rfl)<|QH rfl (fun w F hF hGl=>yZ (a:=a) (b:=b) (op:=YK) hF hGl ha hb (fun w F x y r s hF hx hy hr hs=>⟨TA hF hx hy ⟨by omega,by omega⟩ ⟨by omega,by omega⟩,(by have z1:=J9 r.1 s.1;have z2:=J9 r.1 s.2;have z3:=J9 r.2 s.1;have z4:=J9 r.2 s.2;have:=HK (k:=4800) [r.1*s.2,r.2*s.1,r.2*s.2] (r.1*s.1,r.1*s.1) ⟨by dsimp only;omega,by dsimp only;omega⟩ (fun x hx=>(by simp only [bg,bV,or_false] at hx;rcases hx with rfl | rfl | rfl<;>omega));exact⟨aU this.1 (by decide),aU this.2 (by decide)⟩)⟩)) (fun c8=>QA (QM rfl rfl)<|QA (QM rfl rfl)<|QR (vs:=[_,_]) rfl rfl rfl JU rfl .here .h2 wL<|wD rfl<|QS ?_))))
 exact Ja () rfl (.Jd (c:=[_,_]) rfl JU .here (.tmp rfl .nil)) rfl (fun _ _=>trivial)
def Hf (text:List UInt8):List UInt8×List UInt8×Bool:=if(Zb 46 text).2.2=true then((Zb 46 text).1,(Zb 46 text).2.1,false) else Zb 47 text
def AR (n d:List UInt8) (point slash:Bool):Bool:=!Wq n||((point||slash)&&!Wq d)
def Bj (n d:List UInt8) (point slash:Bool):Int:=if slash=true then JA n else if point=true then JA (n++d) else JA n
def PN (d:List UInt8) (point slash:Bool):Int:=if slash=true then JA d else if point=true then 10^d.length else 1
def R5 (neg:Bool) (n d:List UInt8) (point slash:Bool):List UInt8×Int :=
 if AR n d point slash=true then([],14) else if PN d point slash=0 then([],6) else Nd (aT (if neg=true then -Bj n d point slash else Bj n d point slash) (PN d point slash))
def R4 (s:List UInt8):List UInt8×Int :=
 if 4096<s.length then([],16) else R5 (aD s [45]) (Hf (ab s [45])).1 (Hf (ab s [45])).2.1 (Zb 46 (ab s [45])).2.2 (Hf (ab s [45])).2.2
theorem RM {s:List UInt8} (h:Wq s=true):XK s=true:=by
 simp only [Wq,ay] at h;exact h.1
theorem Ou (t:List UInt8):(Hf t).1.length≤t.length∧(Hf t).2.1.length≤t.length:=by
 unfold Hf
 split
 ·exact DA 46 t
 ·exact DA 47 t
theorem Ov {n d:List UInt8} {pt sl:Bool} (hn:XK n=true) (hd:(pt||sl)=true→XK d=true) (hl:n.length≤1000000∧d.length≤1000000):sz (Bj n d pt sl)≤8000000∧sz (PN d pt sl)≤8000000:=by
 have h1:=VO hn
 unfold Bj PN
 refine⟨?_,?_⟩
 ·split
  ·omega
  ·split
   ·rename_i h
    have h2:=VO (l:=n++d) (by rw [ZG,hn,hd (by rw [h];rfl)];rfl)
    rw [aj] at h2;omega
   ·omega
 ·split
  ·rename_i h
   have h2:=VO (hd (by rw [h];simp))
   omega
  ·split
   ·have:=M0 d.length;omega
   ·have:sz 1=1:=by decide
    omega
theorem Ow {w:ar} {F:Gs} {s:List UInt8} (hF:Fits F w) (hG:JB F) (hl:s.length≤1000000):QZ Tryz.prog 71 [tx s] w F (.tuple #[tx (R4 s).1,.int .i64 (R4 s).2]):=by
 have htl:=D5 s [45]
 have hpl:=Ou (ab s [45])
 have hcl:=DA 46 (ab s [45])
 unfold R4
 refine QT.intro (G:=fun F=>JB F) Tryz.func71 rfl (by rfl) rfl rfl hF (fun F' hF'=>hG.le hF')<|wE<|wB rfl<|wD rfl<|QG<|wF rfl<|QA (XF rfl Xp)<|QA (QU rfl rfl rfl)<|QE<|QC ?_
 refine QQ rfl (fun hc14=>?_) (fun hc14=>?_)
 ·
  refine wE<|wB rfl<|wD rfl<|QS ?_
  exact Ja () rfl (.tmp rfl (.tmp rfl .nil)) (by rw [if_pos (by simp at hc14;omega)]) (fun _ _=>trivial)
 ·
  have hlen:¬ 4096<s.length:=by simp at hc14;omega
  rw [if_neg hlen]
  refine QO<|QC<|wF rfl<|QH rfl (fun w F hF hGl=>EV hF ) (fun _=>wA rfl<|QA (QM rfl rfl)<|QA (QM rfl rfl)<|wB rfl<|wD rfl<|wF rfl<|QH rfl (fun w F hF h9=>Ft hF h9.1 (by omega)) (fun _=>?_))
  rw [Sd]
  refine wA rfl<|QA (QM rfl rfl)<|QA (QM rfl rfl)<|QA (QM rfl rfl)<|wB rfl<|wB rfl<|wD rfl<|wE<|wB rfl<|QE<|QC ?_
  refine Ky (ι:=Unit) (fun _=>[(5,.bool (aD s [45])),(6,tx (Hf (ab s [45])).1),(7,tx (Hf (ab s [45])).2.1),(8,.bool (Zb 46 (ab s [45])).2.2),(9,.bool (Hf (ab s [45])).2.2)]) (fun _=>[]) (fun _ F=>JB F) ?_ ?_
  ·
   refine wF rfl<|QA (Yc rfl)<|QE<|QC ?_
   refine QQ rfl (fun hc27=>?_) (fun hc27=>?_)
   ·
    refine QB<|wA rfl<|QH rfl (fun w F hF h9=>Ft hF h9.1.1 (by omega)) (fun _=>?_)
    rw [Sd]
    refine wA rfl<|QA (QM rfl rfl)<|QA (QM rfl rfl)<|QA (QM rfl rfl)<|wB rfl<|wB rfl<|wB rfl<|QE ?_
    exact J0 () ⟨rfl,(by show some (tx _)=some (tx _);rw [Hf,if_neg (by simpa using hc27)]),(by show some (tx _)=some (tx _);rw [Hf,if_neg (by simpa using hc27)]),rfl,(by show some (ag _)=some (ag _);rw [Hf,if_neg (by simpa using hc27)]),trivial⟩ wG (fun F h=>h.1.1.1)
   ·
    refine QO ?_
    exact J0 () ⟨rfl,(by show some (tx _)=some (tx _);rw [Hf,if_pos (by simpa using hc27)]),(by show some (tx _)=some (tx _);rw [Hf,if_pos (by simpa using hc27)]),rfl,(by show some (ag _)=some (ag _);rw [Hf,if_pos (by simpa using hc27)]),trivial⟩ wG (fun F h=>h.1.1)
  ·intro xg6
   generalize Hf (ab s [45])=pc at hpl ⊢
   obtain ⟨n,d,sl⟩:=pc
   generalize (Zb 46 (ab s [45])).2.2=pt
   generalize aD s [45]=neg
   dsimp only at hpl ⊢
   refine QG ?_
   refine VZ 47 (.bool (AR n d pt sl)) ?_ ?_
   ·
    refine QB<|wA rfl<|QH rfl (fun w F hF hGl=>B6 hF (by omega)) (fun _=>QA (Yc rfl)<|wA rfl ?_)
    refine Qn (t:=37) rfl (fun hb37=>?_) (fun hb37=>?_)
    ·
     refine QN rfl rfl rfl<|QN rfl rfl rfl<|JX rfl rfl<|QN rfl rfl rfl<|QN rfl rfl rfl<|JX rfl rfl<|JX rfl rfl<|JX rfl rfl<|QN rfl rfl rfl<|QA (Qi rfl rfl rfl)<|QE ?_
     exact Js (exd 15 rfl rfl) (congrArg (fun b=>some (ag b)) (by rw [ae];simp_all [AR])) wG (fun _ h=>h.1)
    ·
     refine QL rfl rfl<|wA rfl<|QL rfl rfl<|wA rfl ?_
     refine Qn (t:=39) rfl (fun hb39=>?_) (fun hb39=>?_)
     ·
      refine QN rfl rfl rfl<|QL rfl rfl<|QA (Qi rfl rfl rfl)<|QL rfl rfl<|wA rfl<|QL rfl rfl<|wA rfl<|QL rfl rfl<|QH rfl (fun w F hF h9=>B6 hF (by omega)) (fun _=>QL rfl rfl<|QA (Yc rfl)<|QL rfl rfl<|QA (Qi rfl rfl rfl)<|QA (Qh rfl rfl rfl)<|QE ?_)
      exact Js (exd 16 rfl rfl) (congrArg (fun b=>some (ag b)) (by rw [ae];simp_all [AR])) wG (fun _ h=>h.1.1)
     ·
      refine QL rfl rfl<|wA rfl<|QL rfl rfl<|QA (Qh rfl rfl rfl)<|QL rfl rfl<|wA rfl ?_
      refine Qn (t:=42) rfl (fun hb42=>?_) (fun hb42=>?_)
      ·
       refine QL rfl rfl<|wA rfl<|QL rfl rfl<|QH rfl (fun w F hF h9=>B6 hF (by omega)) (fun _=>QL rfl rfl<|QA (Yc rfl)<|QL rfl rfl<|QA (Qi rfl rfl rfl)<|QA (Qh rfl rfl rfl)<|QE ?_)
       exact Js (exd 17 rfl rfl) (congrArg (fun b=>some (ag b)) (by rw [ae];simp_all [AR])) wG (fun _ h=>h.1.1)
      ·
       refine QN rfl rfl rfl<|QN rfl rfl rfl<|QN rfl rfl rfl<|QL rfl rfl<|QA (Qh rfl rfl rfl)<|QA (Qh rfl rfl rfl)<|QE ?_
       exact Js (exd 17 rfl rfl) (congrArg (fun b=>some (ag b)) (by rw [ae];simp_all [AR])) wG (fun _ h=>h.1)
   ·
    refine QQ rfl (fun hc47=>?_) (fun hc47=>?_)
    ·
     refine wE<|wB rfl<|wD rfl<|QS ?_
     exact Ja () rfl (.tmp rfl (.tmp rfl .nil)) (by unfold R5;rw [if_pos hc47]) (fun _ _=>trivial)
    ·
     have hbad:=hc47
     simp only [AR,Bool.or_eq_false_iff,Bool.not_eq_false',Bool.and_eq_false_iff] at hc47
     have hna:=RM hc47.1
     have hda:(pt||sl)=true→XK d=true:=fun h=>by
      rcases hc47.2 with g | g
      ·rw [bK] at h;rcases h with h | h<;>simp_all
      ·exact RM g
     have hsz:=Ov hna hda ⟨by omega,by omega⟩
     refine QO<|QC<|wF rfl<|QH rfl (fun w F hF hGl=>GX hF (by rw [Zf hna];exact hna) (by omega)) (fun g49=>QH rfl (fun w F hF h9=>NL hF (by omega) (by omega)) (fun g50=>Qg Ze (fun b10=>Qg Ze (fun b11=>QR (vs:=[_,_]) rfl rfl rfl QY rfl .u1 .h2 wL<|QR (vs:=[_,_]) rfl rfl rfl QY rfl .here .h2 wL<|QE<|QC ?_))))
     refine Ky (ι:=Bg×Bg) (fun j=>[(5,.bool neg),(10,.pointer (some ⟨b10,0,none⟩)),(11,.pointer (some ⟨b11,0,none⟩))]) (fun j=>[(b11,.cells #[.int .i64 j.2.s,.slice j.2.q j.2.n j.2.cap] 128 (0,0)),(b10,.cells #[.int .i64 j.1.s,.slice j.1.q j.1.n j.1.cap] 128 (0,0))]) (fun j F=>JB F∧Jv F j.1 (Bj n d pt sl)∧Jv F j.2 (PN d pt sl)) ?_ ?_
     ·
      refine QX<|wF rfl<|wB rfl<|QE<|QC ?_
      refine QQ rfl (fun hc51=>?_) (fun hc51=>?_)
      ·
       refine QB<|wA rfl<|QH rfl (fun w F hF h9=>GX hF (by rw [Zf (hda (by rw [hc51];simp))];exact hda (by rw [hc51];simp)) (by omega)) (fun g54=>QR (vs:=[_,_]) rfl rfl rfl QY rfl .here .h2 wL<|QE<|Qk ?_)
       exact J0 (g49,g54) wM wG (fun F ⟨⟨⟨hGl,h49⟩,h50⟩,h54⟩=>⟨hGl,(by rw [XM hna] at h49;unfold Bj;rw [if_pos hc51];exact h49),(by rw [XM (hda (by rw [hc51];simp))] at h54;unfold PN;rw [if_pos hc51];exact h54)⟩)
      ·
       refine wF rfl<|wB rfl<|QE<|QC ?_
       refine QQ rfl (fun hc55=>?_) (fun hc55=>?_)
       ·
        refine QB<|wA rfl<|wA rfl<|QA (Zs rfl rfl (by omega))<|QH rfl (fun w F hF h9=>GX hF (by rw [Zf (show XK (n++d)=true by rw [ZG,hna,hda (by rw [hc55];rfl)];rfl)];exact(show XK (n++d)=true by rw [ZG,hna,hda (by rw [hc55];rfl)];rfl)) (by rw [aj];omega)) (fun g60=>QH rfl (fun w F hF h9=>NL hF (by omega) (by omega)) (fun g61=>wA rfl<|QA (XF rfl Xp)<|QH rfl (fun w F hF h9=>TU (a:=10) hF h9.2 (by omega) (by omega) (by rw [ff,show sz 10=4 by decide];omega)) (fun g64=>QR (vs:=[_,_]) rfl rfl rfl QY rfl .u1 .h2 wL<|QR (vs:=[_,_]) rfl rfl rfl QY rfl .here .h2 wL<|QE<|Qk ?_)))
        exact J0 (g60,g64) wM wG (fun F ⟨⟨⟨⟨⟨hGl,h49⟩,h50⟩,h60⟩,h61⟩,h64⟩=>⟨hGl,(by rw [XM (show XK (n++d)=true by rw [ZG,hna,hda (by rw [hc55];rfl)];rfl)] at h60;unfold Bj;rw [if_neg (by rw [hc51];decide),if_pos hc55];exact h60),(by rw [ff] at h64;unfold PN;rw [if_neg (by rw [hc51];decide),if_pos hc55];exact h64)⟩)
       ·
        refine QO<|Qk ?_
        exact J0 (g49,g50) wM wG (fun F ⟨⟨hGl,h49⟩,h50⟩=>⟨hGl,(by rw [XM hna] at h49;unfold Bj;rw [if_neg (by rw [hc51];decide),if_neg (by rw [hc55];decide)];exact h49),(by unfold PN;rw [if_neg (by rw [hc51];decide),if_neg (by rw [hc55];decide)];exact h50)⟩)
     ·intro xb0
      refine QG<|wE<|QA (QJ (vs:=[_,_]) rfl QY .here .h2 rfl)<|QH rfl (fun w F hF h9=>DX hF h9.2.2) (fun _=>QA (QU rfl rfl rfl)<|QE<|QC ?_)
      refine QQ rfl (fun hc67=>?_) (fun hc67=>?_)
      ·
       refine wE<|wB rfl<|wD rfl<|QS ?_
       exact Ja () rfl (.tmp rfl (.tmp rfl .nil)) (by unfold R5;rw [if_neg (by rw [hbad];decide),if_pos (OE _ (by simpa using hc67))]) (fun _ _=>trivial)
      ·
       refine QO<|QC ?_
       refine Ky (ι:=Bg×Bg) (fun j=>[(5,.bool neg),(10,.pointer (some ⟨b10,0,none⟩)),(11,.pointer (some ⟨b11,0,none⟩))]) (fun j=>[(b11,.cells #[.int .i64 j.2.s,.slice j.2.q j.2.n j.2.cap] 128 (0,0)),(b10,.cells #[.int .i64 j.1.s,.slice j.1.q j.1.n j.1.cap] 128 (0,0))]) (fun j F=>JB F∧Jv F j.1 (if neg=true then -(Bj n d pt sl) else(Bj n d pt sl))∧Jv F j.2 (PN d pt sl)) ?_ ?_
       ·
        refine wF rfl<|QE<|QC ?_
        refine QQ rfl (fun hc68=>?_) (fun hc68=>?_)
        ·
         refine QB<|QA (QJ (vs:=[_,_]) rfl QY .u1 .h2 rfl)<|QH rfl (fun w F hF h9=>EK hF h9.1.2.1) (fun g70=>QR (vs:=[_,_]) rfl rfl rfl QY rfl .u1 .h2 wL<|QE ?_)
         exact J0 (g70,xb0.2) wM wG (fun F h9=>⟨h9.1.1.1,(by rw [if_pos hc68];exact h9.2),h9.1.1.2.2⟩)
        ·
         refine QO ?_
         exact J0 (xb0.1,xb0.2) wM wG (fun F h9=>⟨h9.1.1,(by rw [if_neg (by rw [hc68];decide)];exact h9.1.2.1),h9.1.2.2⟩)
       ·intro xg17
        refine wE<|QA (QJ (vs:=[_,_]) rfl QY .u1 .h2 rfl)<|QA (QJ (vs:=[_,_]) rfl QY .here .h2 rfl)<|QH rfl (fun w F hF h9=>NV hF h9.2.1 h9.2.2 (fun e=>by rw [e] at hc67;exact absurd hc67 (by decide)) (by split<;>(try rw [Yd])<;>omega) (by omega)) (fun x73=>QH rfl (fun w F hF h9=>Iy (r:=aT (if neg=true then -(Bj n d pt sl) else(Bj n d pt sl)) (PN d pt sl)) hF h9.1.1 ⟨h9.2.1,h9.2.2⟩ (aU (YL (fun e=>by rw [e] at hc67;exact absurd hc67 (by decide))) (by have hq:sz (if neg=true then -(Bj n d pt sl) else(Bj n d pt sl))≤8000000:=(by split<;>(try rw [Yd])<;>omega);omega))) (fun _=>QA (QM rfl rfl)<|QA (QM rfl rfl)<|wB rfl<|wD rfl<|QS ?_))
        exact Ja () rfl (.tmp rfl (.tmp rfl .nil)) (by unfold R5;rw [if_neg (by rw [hbad];decide),if_neg (fun e=>by rw [e] at hc67;exact absurd hc67 (by decide))];rfl) (fun _ _=>trivial)
section
variable [Dr] [df:Df] {P:aS} {Q:Exit→Act→ar→Prop} {N:Nat} {m:Sl} {ops:Array Oper} {l:List Oper} {w0:ar} {F0:Gs} {bs:List (Nat×Obj)} {G:Gs→Prop} {d:Nat} {ty:aO} {pos:String} {aft:Array Edge}
theorem UY {T:aO} {x:bz} {s:List UInt8} (hx:ev m x=some (tx s)) (hT:Gu P T=true) (k:∀ b,JS P ops Q l N ((d,.pointer (some ⟨b,0,none⟩))::m) ⟨w0,F0,(b,.stringIter ⟨s.toArray⟩ 0)::bs,G⟩) (hd:J5 N (some d)=true:=by rfl) :
  JS P ops Q (⟨some d,.range T x,ty,pos,aft,none⟩::l) N m ⟨w0,F0,bs,G⟩:=fun a w ha hw=>by
 unfold Gu at hT
 split at hT
 ·rename_i hu
  have hrun:(execOp a.eval ⟨some d,.range T x,ty,pos,aft,none⟩).run P w = .ok (.value (.pointer (some ⟨w.heap.size,0,none⟩))) (w.alloc (.stringIter ⟨s.toArray⟩ 0)):=by
   simp [execOp,ha.ev hx,Instr.range,run_underlying hu,run_newObj,tx]
  exact wpList_plain rfl fun K hK=>upon_value hrun (hK _ _ (k _ _ _ (ha.put hd _) (hw.alloc _ (fun c fr e=>by cases e))))
 ·cases hT
theorem Az {x:bz} {s:List UInt8} {b p:Nat} {f:Obj→List (Nat×Obj)} (hx:ev m x=some (.pointer (some ⟨b,0,none⟩))) (ho:Own bs b (.stringIter ⟨s.toArray⟩ p) f) (hp:p<s.length) {c width:Nat} (hdec:bH ⟨s.toArray⟩ p=(c,width))
  (k:JS P ops Q l N ((d,.tuple #[.bool true,.int .i64 p,.int .i32 c])::m) ⟨w0,F0,f (.stringIter ⟨s.toArray⟩ (p+width)),G⟩) (hd:J5 N (some d)=true:=by rfl) :
  JS P ops Q (⟨some d,.next x true,ty,pos,aft,none⟩::l) N m ⟨w0,F0,bs,G⟩:=fun a w ha hw=>by
 have hb:=hw.own ho
 obtain ⟨pre,post,e1,e2⟩:=ho.split
 subst e1
 rw [e2] at k
 have hsz:p<(⟨s.toArray⟩:ByteArray).size:=by rw [YX];exact hp
 have hrun:(execOp a.eval ⟨some d,.next x true,ty,pos,aft,none⟩).run P w = .ok (.value (.tuple #[.bool true,.int .i64 p,.int .i32 c])) { w with heap:=w.heap.setIfInBounds b (.stringIter ⟨s.toArray⟩ (p+width)) }:=by
  simp [execOp,ha.ev hx,Instr.next,getObj,setObj,Sem.run,hb,hsz,hdec,goInt]
 exact wpList_plain rfl fun K hK=>upon_value hrun (hK _ _ (k _ _ (ha.put hd _) (hw.write pre ⟨rfl,rfl,rfl,rfl,rfl⟩ (fun c fr e=>by cases e))))
theorem FA {x:bz} {s:List UInt8} {b p:Nat} {f:Obj→List (Nat×Obj)} (hx:ev m x=some (.pointer (some ⟨b,0,none⟩))) (ho:Own bs b (.stringIter ⟨s.toArray⟩ p) f) (hp:s.length≤p)
  (k:JS P ops Q l N ((d,.tuple #[.bool false])::m) ⟨w0,F0,bs,G⟩) (hd:J5 N (some d)=true:=by rfl) :
  JS P ops Q (⟨some d,.next x true,ty,pos,aft,none⟩::l) N m ⟨w0,F0,bs,G⟩:=fun a w ha hw=>by
 have hb:=hw.own ho
 have hsz:¬ p<(⟨s.toArray⟩:ByteArray).size:=by rw [YX];omega
 have hrun:(execOp a.eval ⟨some d,.next x true,ty,pos,aft,none⟩).run P w = .ok (.value (.tuple #[.bool false])) w:=by
  simp [execOp,ha.ev hx,Instr.next,getObj,Sem.run,hb,hsz]
 exact wpList_plain rfl fun K hK=>upon_value hrun (hK _ _ (k _ _ (ha.put hd _) hw))
end
theorem decode_high {s:List UInt8} {p:Nat} (hp:p<s.length) (h:¬ s[p].toNat<128):128≤(bH ⟨s.toArray⟩ p).1:=by
 have h0:((⟨s.toArray⟩:ByteArray).get! (p+0)).toNat=s[p].toNat:=by
  simp [ByteArray.get!,hp]
 unfold bH
 simp only [h0]
 rw [if_neg h]
 split
 ·split
  ·rename_i g;exact g
  ·decide
 ·split
  ·split
   ·rename_i g;simp only [ay,decide_eq_true_eq] at g;exact aU (by decide) g.1
   ·decide
  ·split
   ·split
    ·rename_i g;simp only [ay,decide_eq_true_eq] at g;exact aU (by decide) g.1
    ·decide
   ·decide
theorem I7 {s:List UInt8} {p:Nat} (hp:p<s.length):∃ c width,bH ⟨s.toArray⟩ p=(c,width)∧((s[p].toNat<128∧c=s[p].toNat∧width=1)∨(128≤s[p].toNat∧128≤c)):=by
 have h0:((⟨s.toArray⟩:ByteArray).get! (p+0)).toNat=s[p].toNat:=by
  simp [ByteArray.get!,hp]
 by_cases h:s[p].toNat<128
 ·exact⟨_,_,by unfold bH;simp only [h0];rw [if_pos h],.inl ⟨h,rfl,rfl⟩⟩
 ·exact⟨(bH ⟨s.toArray⟩ p).1,(bH ⟨s.toArray⟩ p).2,rfl,.inr ⟨by omega,decode_high hp h⟩⟩
def T5 (c:Nat):Bool:=(decide (97≤c)&&decide (c≤122))||(decide (65≤c)&&decide (c≤90))
def Nv (i c:Nat):Bool:=!T5 c&&(i==0||(!(c==95)&&(decide (c<48)||decide (57<c))))
def GZ:Nat→List UInt8→Bool
 |_,[]=>true
 |i,c::r=>!Nv i c.toNat&&GZ (i+1) r
def P5 (s:List UInt8):Bool:=GZ 0 s&&decide (0<s.length)&&decide (s.length≤24)
theorem NK {s:List UInt8} {i:Nat} (hi:i<s.length):GZ i (s.drop i)=(!Nv i s[i].toNat&&GZ (i+1) (s.drop (i+1))):=by
 rw [aE hi];rfl
theorem RV {i c:Nat} (h:128≤c):Nv i c=true:=by
 unfold Nv T5
 rw [decide_eq_false (show ¬ c≤122 by omega),decide_eq_false (show ¬ c≤90 by omega),decide_eq_true (show 57<c by omega)]
 have:(c==95)=false:=by simp;omega
 rw [this];simp
theorem T4 {w:ar} {F:Gs} {s:List UInt8} (hF:Fits F w) (hl:s.length≤1000000000):QZ Tryz.prog 66 [tx s] w F (.bool (P5 s)):=by
 refine QT.intro (G:=fun _=>True) Tryz.func66 rfl (by rfl) rfl rfl hF (fun F' hF'=>trivial)<|wE<|wD rfl<|QG<|wF rfl<|UY rfl Xp (fun b7=>wC<|QX<|Xb (ι:=BL s.length (fun i=>GZ 0 s=GZ i (s.drop i))) (fun i=>[(0,tx s),(7,.pointer (some ⟨b7,0,none⟩))]) (fun i=>[(b7,.stringIter ⟨s.toArray⟩ i.i)]) (fun _ _=>True) (fun i=>s.length - i.i) ⟨0,aF _,rfl⟩ wL wG (fun _ h=>h) (fun i=>?_))
 have hle:=i.le
 rcases aQ i.i s.length with hi | hi
 ·
  refine QG<|QB ?_
  obtain ⟨c,wd,hdec,hcase⟩:=I7 hi
  refine Az rfl .here hi hdec<|QA (QM rfl rfl)<|wC<|QG<|GK rfl<|QO<|QC<|QX<|wE<|QA (QM rfl rfl)<|QA (QM rfl rfl)<|wB rfl<|wB rfl<|QE<|QC ?_
  refine VZ 5 (.bool (T5 c)) ?_ ?_
  ·
   refine QB<|wA rfl<|QA (QU rfl rfl rfl)<|wA rfl ?_
   refine Qn (t:=14) rfl (fun hb14=>?_) (fun hb14=>?_)
   ·
    refine QL rfl rfl<|wA rfl<|QL rfl rfl<|QA (QU rfl rfl rfl)<|QA (Qi rfl rfl rfl)<|wA rfl ?_
    refine Qn (t:=18) rfl (fun hb18=>?_) (fun hb18=>?_)
    ·
     refine QN rfl rfl rfl<|QN rfl rfl rfl<|QN rfl rfl rfl<|JX rfl rfl<|JX rfl rfl<|QN rfl rfl rfl<|QA (Qi rfl rfl rfl)<|wB rfl<|QE ?_
     exact Js (exd 17 rfl rfl) (congrArg (fun b=>some (ag b)) (by rw [ae];simp_all [T5];try omega)) wG (fun _ h=>h)
    ·
     refine QL rfl rfl<|wA rfl<|QL rfl rfl<|QA (QU rfl rfl rfl)<|QL rfl rfl<|wA rfl ?_
     refine Qn (t:=21) rfl (fun hb21=>?_) (fun hb21=>?_)
     ·
      refine QL rfl rfl<|wA rfl<|QL rfl rfl<|QA (QU rfl rfl rfl)<|QL rfl rfl<|QA (Qi rfl rfl rfl)<|QA (Qh rfl rfl rfl)<|wB rfl<|QE ?_
      exact Js (exd 18 rfl rfl) (congrArg (fun b=>some (ag b)) (by rw [ae];simp_all [T5];try omega)) wG (fun _ h=>h)
     ·
      refine QN rfl rfl rfl<|QN rfl rfl rfl<|QL rfl rfl<|QA (Qh rfl rfl rfl)<|QA (Qh rfl rfl rfl)<|wB rfl<|QE ?_
      exact Js (exd 18 rfl rfl) (congrArg (fun b=>some (ag b)) (by rw [ae];simp_all [T5];try omega)) wG (fun _ h=>h)
   ·
    refine QN rfl rfl rfl<|QN rfl rfl rfl<|QA (Qh rfl rfl rfl)<|wA rfl<|QL rfl rfl<|wA rfl<|QL rfl rfl<|QA (QU rfl rfl rfl)<|QL rfl rfl<|wA rfl ?_
    refine Qn (t:=21) rfl (fun hb21=>?_) (fun hb21=>?_)
    ·
     refine QL rfl rfl<|wA rfl<|QL rfl rfl<|QA (QU rfl rfl rfl)<|QL rfl rfl<|QA (Qi rfl rfl rfl)<|QA (Qh rfl rfl rfl)<|wB rfl<|QE ?_
     exact Js (exd 17 rfl rfl) (congrArg (fun b=>some (ag b)) (by rw [ae];simp_all [T5];try omega)) wG (fun _ h=>h)
    ·
     refine QN rfl rfl rfl<|QN rfl rfl rfl<|QL rfl rfl<|QA (Qh rfl rfl rfl)<|QA (Qh rfl rfl rfl)<|wB rfl<|QE ?_
     exact Js (exd 17 rfl rfl) (congrArg (fun b=>some (ag b)) (by rw [ae];simp_all [T5];try omega)) wG (fun _ h=>h)
  ·
   refine VZ 43 (.bool (Nv i.i c)) ?_ ?_
   ·
    refine QB<|wA rfl<|QA (Yc rfl)<|wA rfl ?_
    refine Qn (t:=28) rfl (fun hb28=>?_) (fun hb28=>?_)
    ·
     refine QL rfl rfl<|wA rfl<|QL rfl rfl<|QA (QU rfl rfl rfl)<|QL rfl rfl<|wA rfl ?_
     refine Qn (t:=31) rfl (fun hb31=>?_) (fun hb31=>?_)
     ·
      refine QN rfl rfl rfl<|QN rfl rfl rfl<|QN rfl rfl rfl<|JX rfl rfl<|JX rfl rfl<|JX rfl rfl<|JX rfl rfl<|JX rfl rfl<|JX rfl rfl<|QN rfl rfl rfl<|QL rfl rfl<|QA (Qi rfl rfl rfl)<|QA (Qi rfl rfl rfl)<|QE ?_
      exact Js (exd 20 rfl rfl) (congrArg (fun b=>some (ag b)) (by rw [ae];simp_all [Nv];try omega)) wG (fun _ h=>h)
     ·
      refine QL rfl rfl<|wA rfl<|QL rfl rfl<|QA (QU rfl rfl rfl)<|QL rfl rfl<|wA rfl ?_
      refine Qn (t:=34) rfl (fun hb34=>?_) (fun hb34=>?_)
      ·
       refine QL rfl rfl<|wA rfl<|QL rfl rfl<|QA (QU rfl rfl rfl)<|QL rfl rfl<|wA rfl ?_
       refine Qn (t:=37) rfl (fun hb37=>?_) (fun hb37=>?_)
       ·
        refine QN rfl rfl rfl<|QN rfl rfl rfl<|QL rfl rfl<|QA (Qi rfl rfl rfl)<|QL rfl rfl<|QA (Qi rfl rfl rfl)<|QL rfl rfl<|QA (Qh rfl rfl rfl)<|QA (Qi rfl rfl rfl)<|QE ?_
        exact Js (exd 22 rfl rfl) (congrArg (fun b=>some (ag b)) (by rw [ae];simp_all [Nv];try omega)) wG (fun _ h=>h)
       ·
        refine QL rfl rfl<|wA rfl<|QL rfl rfl<|QA (QU rfl rfl rfl)<|QL rfl rfl<|QA (Qh rfl rfl rfl)<|QL rfl rfl<|QA (Qi rfl rfl rfl)<|QL rfl rfl<|QA (Qh rfl rfl rfl)<|QA (Qi rfl rfl rfl)<|QE ?_
        exact Js (exd 22 rfl rfl) (congrArg (fun b=>some (ag b)) (by rw [ae];simp_all [Nv];try omega)) wG (fun _ h=>h)
      ·
       refine QN rfl rfl rfl<|QN rfl rfl rfl<|QN rfl rfl rfl<|JX rfl rfl<|JX rfl rfl<|QN rfl rfl rfl<|QL rfl rfl<|QA (Qh rfl rfl rfl)<|QL rfl rfl<|QA (Qh rfl rfl rfl)<|QA (Qi rfl rfl rfl)<|QE ?_
       exact Js (exd 21 rfl rfl) (congrArg (fun b=>some (ag b)) (by rw [ae];simp_all [Nv];try omega)) wG (fun _ h=>h)
    ·
     refine QN rfl rfl rfl<|QN rfl rfl rfl<|QN rfl rfl rfl<|JX rfl rfl<|JX rfl rfl<|JX rfl rfl<|JX rfl rfl<|JX rfl rfl<|JX rfl rfl<|JX rfl rfl<|JX rfl rfl<|JX rfl rfl<|JX rfl rfl<|QN rfl rfl rfl<|QA (Qh rfl rfl rfl)<|QE ?_
     exact Js (exd 19 rfl rfl) (congrArg (fun b=>some (ag b)) (by rw [ae];simp_all [Nv];try omega)) wG (fun _ h=>h)
   ·
    refine QQ rfl (fun hc=>?_) (fun hc=>?_)
    ·
     refine wE<|wD rfl<|QS ?_
     repeat (first | refine JC ?_ | refine Q5 ?_)
     exact QP () rfl (.tmp rfl .nil) (congrArg ag (by have hb:Nv i.i s[i.i].toNat=true:=(by rcases hcase with ⟨_,h2,_⟩ | ⟨h2,_⟩;rw [← h2];exact hc;exact RV h2);unfold P5;rw [i.h,NK hi,hb];rfl)) (fun _ _=>trivial)
    ·
     refine QO<|Qk ?_
     rcases hcase with ⟨h1,rfl,rfl⟩ | ⟨_,h2⟩
     ·exact Qo (⟨i.i+1,by omega,i.h.trans (by rw [NK hi,hc];rfl)⟩:BL s.length (fun i=>GZ 0 s=GZ i (s.drop i))) (by show s.length - (i.i+1)<s.length - i.i;omega) wL wG (fun _ h=>trivial)
     ·rw [RV h2] at hc;cases hc
 ·
  refine wE<|FA rfl .here hi<|QA (QM rfl rfl)<|wC<|QG<|YQ rfl<|Qz ?_
  repeat (first | refine Qb ?_ | refine QV (by rfl) ?_)
  refine Qc<|QC<|wF rfl<|QA (XF rfl Xp)<|QA (QU rfl rfl rfl)<|wA rfl ?_
  refine Qn (t:=47) rfl (fun hb47=>?_) (fun hb47=>?_)
  ·
   refine QL rfl rfl<|wA rfl<|QL rfl rfl<|QA (XF rfl Xp)<|QL rfl rfl<|QA (QU rfl rfl rfl)<|QA (Qi rfl rfl rfl)<|wD rfl<|QS ?_
   exact QP () rfl (.tmp rfl .nil) (congrArg ag (by have e:=i.h;rw [au hi] at e;unfold P5;rw [e];have h0:=hb47;rw [ae];simp [GZ] at *;(try subst h0);(try simp);try omega)) (fun _ _=>trivial)
  ·
   refine QN rfl rfl rfl<|QN rfl rfl rfl<|QN rfl rfl rfl<|QA (Qh rfl rfl rfl)<|wD rfl<|QS ?_
   exact QP () rfl (.tmp rfl .nil) (congrArg ag (by have e:=i.h;rw [au hi] at e;unfold P5;rw [e];have h0:=hb47;rw [ae];simp [GZ] at *;(try subst h0);(try simp);try omega)) (fun _ _=>trivial)
def ahead (p:UInt8→Bool) (s:List UInt8):Nat:=(s.takeWhile (fun c=>!p c)).length
theorem RX {p:UInt8→Bool} {s:List UInt8} {i:Nat} (hi:i<s.length) (h:(s.take i).all (fun c=>!p c)=true) (hp:p s[i]=true):ahead p s=i:=by
 unfold ahead
 have e:s=s.take i++s[i]::s.drop (i+1):=by rw [← aE hi,bZ]
 have hl:(s.take i).length=i:=by simp;omega
 rw [e,List.takeWhile_append_of_pos (by simpa using h),eW]
 simp [hp];omega
theorem RY {p:UInt8→Bool} {s:List UInt8} (h:s.all (fun c=>!p c)=true):ahead p s=s.length:=by
 unfold ahead
 induction s with
 |nil=>rfl
 |cons c s ih =>
  simp only [eL,ay] at h
  rw [eW,if_pos h.1,ax,ih h.2,ax]
theorem D4 {p:UInt8→Bool} {s:List UInt8} {i:Nat} (hi:i<s.length) (h:(s.take i).all p=true) (hp:p s[i]=true):(s.take (i+1)).all p=true:=by
 rw [aC hi,List.all_append,h];simp [hp]
def XY (c:UInt8):Bool:=c==47
theorem E2 {c d:UInt8} {z:Int} (hz:z=(d.toNat:Int)):((c.toNat:Int)==z)=(c==d):=by
 rw [ae]
 simp only [beq_iff_eq]
 constructor
 ·intro h
  apply UInt8.toNat.inj
  omega
 ·rintro rfl
  exact hz.symm
theorem ED {w:ar} {F:Gs} {s:List UInt8} (hF:Fits F w) (hl:s.length≤9223372036854775807):QZ Tryz.prog 117 [tx s] w F (.int .i64 (ahead XY s)):=by
 refine QT.intro (G:=fun _=>True) Tryz.func117 rfl (by rfl) rfl rfl hF (fun F' hF'=>trivial)<|wE<|wD rfl<|QG<|wE<|wD rfl<|QX<|Xb (ι:=BL s.length (fun i=>(s.take i).all (fun c=>!XY c)=true)) (fun i=>[(0,tx s),(3,.int .i64 i.i)]) (fun _=>[]) (fun _ _=>True) (fun i=>s.length - i.i) ⟨0,aF _,rfl⟩ wL wG (fun _ h=>trivial) (fun i=>?_)
 have hle:=i.le
 refine QG<|wF rfl<|wA rfl<|QA (XF rfl Xp)<|QA (QU rfl rfl rfl)<|QE<|QC ?_
 refine QQ rfl (fun hc=>?_) (fun hc=>?_)
 ·
  have hi:i.i<s.length:=by simp at hc;omega
  clear hc
  refine QO<|QC<|QG<|QX<|wF rfl<|wA rfl<|QA (WA rfl rfl Xp (hi))<|QA (QU rfl rfl rfl)<|QE<|QC ?_
  refine QQ rfl (fun hc=>?_) (fun hc=>?_)
  ·
   refine wF rfl<|wD rfl<|QS ?_
   repeat (first | refine JC ?_ | refine Q5 ?_)
   exact QP () rfl (.tmp rfl .nil) (congrArg (fun n:Nat=>aa .i64 (n:Int)) (RX hi i.h (by unfold XY;have:=hc;rw [E2 (d:=47) (z:=47) rfl] at this;simpa using this))) (fun _ _=>trivial)
  ·
   refine QO<|Qk<|QC<|QB<|wA rfl<|QA (Qs rfl rfl (by omega))<|wB rfl<|QE ?_
   exact Qo (⟨i.i+1,by omega,D4 hi i.h (by unfold XY;have:=hc;rw [E2 (d:=47) (z:=47) rfl] at this;simpa using this)⟩:BL s.length (fun i=>(s.take i).all (fun c=>!XY c)=true)) (by show s.length - (i.i+1)<s.length - i.i;omega) wL wG (fun _ h=>trivial)
 ·
  refine Qz ?_
  repeat (first | refine Qb ?_ | refine QV (by rfl) ?_)
  refine Qc<|QC<|wF rfl<|QA (XF rfl Xp)<|wD rfl<|QS ?_
  exact QP () rfl (.tmp rfl .nil) (congrArg (fun n:Nat=>aa .i64 (n:Int)) (RY (by have e:=i.h;rw [ah (by simp at hc;omega)] at e;exact e))) (fun _ _=>trivial)
def N7 (s:List UInt8):Int:=if s=[48] then 0 else if aD s [45]=true then -1 else 1
def C1 (s:List UInt8):List UInt8:=if N7 s<0 then s.drop 1 else s
def numOf (s:List UInt8):List UInt8:=s.take (ahead XY s)
def UM (s:List UInt8):List UInt8:=if ahead XY s=s.length then [49] else s.drop (ahead XY s+1)
theorem GY {s:List UInt8} (h:0<s.length):aD s [45]=(s[0]==45):=by
 cases s with
 |nil=>simp at h
 |cons c r =>
  have e:aD (c::r) [45]=(45==c):=by simp [aD,List.isPrefixOf]
  rw [e,ae]
  simp only [List.getElem_cons_zero,beq_iff_eq]
  exact⟨fun h=>h.symm,fun h=>h.symm⟩
theorem El {s:List UInt8} {i:Nat} (hi:i<s.length):JA (s.take (i+1))=JA (s.take i)*10+(s[i].toNat - 48):=by
 rw [aC hi,YE,VI];simp
theorem kT {s:List UInt8} {i:Nat} (hi:i<s.length) (h:XK s=true):48≤s[i].toNat∧s[i].toNat≤57:=by
 rw [XK,fe] at h
 exact Ys.1 (h _ (bf hi))
theorem M7 {w:ar} {F:Gs} {s:List UInt8} (hF:Fits F w) (hs:XK s=true) (hl:s.length≤18):QZ Tryz.prog 232 [tx s] w F (.int .i64 (JA s)):=by
 refine QT.intro (G:=fun _=>True) Tryz.func232 rfl (by rfl) rfl rfl hF (fun F' hF'=>trivial)<|wE<|wD rfl<|wE<|wD rfl<|QG<|wE<|wD rfl<|QX<|Xb (ι:=BL s.length (fun _=>True)) (fun i=>[(0,tx s),(3,.int .i64 (JA (s.take i.i))),(4,.int .i64 i.i)]) (fun _=>[]) (fun _ _=>True) (fun i=>s.length - i.i) ⟨0,aF _,trivial⟩ wM wG (fun _ h=>trivial) (fun i=>?_)
 have hle:=i.le
 have hlt:=Vn (HM hs i.i)
 have hp18:(10:Nat)^(s.take i.i).length≤10^18:=bn (by decide) (by simp;omega)
 refine QG<|wF rfl<|wA rfl<|QA (XF rfl Xp)<|QA (QU rfl rfl rfl)<|QE<|QC ?_
 refine QQ rfl (fun hc=>?_) (fun hc=>?_)
 ·
  have hi:i.i<s.length:=by simp at hc;omega
  have hd:=kT hi hs
  have hp17:(10:Nat)^(s.take i.i).length≤10^17:=bn (by decide) (by simp;omega)
  refine QO<|QC<|QG<|QX<|QB<|wA rfl<|QA (GF rfl rfl (by omega))<|wA rfl<|wA rfl<|QA (WA rfl rfl Xp (hi))<|QA (Pw rfl gV k_3 (by omega))<|QA (Qs rfl rfl (by omega))<|QA (XB rfl rfl (by omega))<|wB rfl<|QE<|Qk<|QC<|QB<|wA rfl<|QA (Qs rfl rfl (by omega))<|wB rfl<|QE ?_
  exact Qo (⟨i.i+1,by omega,trivial⟩:BL s.length (fun _=>True)) (by show s.length - (i.i+1)<s.length - i.i;omega) ⟨rfl,(by show some (aa .i64 _)=some (aa .i64 _);rw [El hi];congr 2;omega),rfl,trivial⟩ wG (fun _ h=>trivial)
 ·
  refine Qz ?_
  repeat (first | refine Qb ?_ | refine QV (by rfl) ?_)
  refine Qc<|QC<|wF rfl<|wD rfl<|QS ?_
  exact QP () rfl (.tmp rfl .nil) (congrArg (aa .i64) (by rw [ah (by simp at hc;omega)])) (fun _ _=>trivial)
structure pY (a b:Nat) where
 x:Nat
 y:Nat
 h:fc x y=fc a b
 hx:x≤9223372036854775807
 hy:y≤9223372036854775807
theorem dC {w:ar} {F:Gs} {a b:Nat} (hF:Fits F w) (ha:a≤9223372036854775807) (hb:b≤9223372036854775807):QZ Tryz.prog 181 [.int .i64 (a:Int),.int .i64 (b:Int)] w F (.int .i64 (fc a b:Nat)):=by
 refine QT.intro (G:=fun _=>True) Tryz.func181 rfl (by rfl) rfl rfl hF (fun F' hF'=>trivial)<|wE<|wD rfl<|QG<|QX<|Xb (ι:=pY a b) (fun i=>[(0,.int .i64 (i.x:Int)),(1,.int .i64 (i.y:Int))]) (fun _=>[]) (fun _ _=>True) (fun i=>i.y) ⟨a,b,rfl,ha,hb⟩ wL wG (fun _ h=>trivial) (fun i=>?_)
 have hx:=i.hx
 have hy:=i.hy
 refine QG<|wF rfl<|QA (QU rfl rfl rfl)<|QE<|QC ?_
 refine QQ rfl (fun hc=>?_) (fun hc=>?_)
 ·
  have hpos:0<i.y:=by simp at hc;omega
  refine QO<|QC<|QX<|JV wG mixed (by kernel_rfl)<|QK (QD rfl)<|QK (QD rfl)<|QK (QD rfl)<|QK (Kn rfl rfl (by omega) (by omega))<|QK (QF rfl)<|QK (QF rfl)<|Q3<|Qk ?_
  exact Qo (⟨i.y,i.x%i.y,by rw [← i.h,Nat.gcd_comm i.x,Nat.gcd_rec i.y i.x,Nat.gcd_comm],hy,by have:=Nat.mod_lt i.x hpos;omega⟩:pY a b) (Nat.mod_lt i.x hpos) wL wG (fun _ h=>trivial)
 ·
  refine Qz ?_
  repeat (first | refine Qb ?_ | refine QV (by rfl) ?_)
  refine Qc<|QC<|wF rfl<|wD rfl<|QS ?_
  exact QP () rfl (.tmp rfl .nil) (congrArg (fun n:Nat=>aa .i64 (n:Int)) (by have h0:i.y=0:=(by simp at hc;omega);rw [← i.h,h0,Nat.gcd_zero_right])) (fun _ _=>trivial)
def N6 (n least:Nat):List UInt8:=Vf least (hd n)
theorem Fm {n:Nat} (h:0<n):hd n=hd (n / 10)++[eC (48+n%10)]:=by
 unfold hd
 rw [if_neg (by omega)]
 by_cases h0:n / 10=0
 ·rw [if_pos h0,aL,dif_pos (by omega),Nat.mod_eq_of_lt (by omega)];rfl
 ·rw [if_neg h0,Lib.decDigits.eq_1 n,dif_neg (by omega)]
theorem CM {n:Nat} (h:n≤9223372036854775807):(hd n).length≤20:=by
 unfold hd;split
 ·simp
 ·rw [bw];exact Zj (by omega) (by decide)
structure C2 (n least:Nat) where
 m:Nat
 t:List UInt8
 le:m≤n
 h:Vf (least - t.length) (hd m)++t=N6 n least
 tl:t.length+(hd m).length≤least+20
theorem Ca {n:Nat} {least:Nat} {t:List UInt8} (h:0<n∨t.length<least):Vf (least - (eC (48+n%10)::t).length) (hd (n / 10))++(eC (48+n%10)::t)=Vf (least - t.length) (hd n)++t:=by
 rcases aW n with h0 | h0
 ·subst h0
  have hlt:t.length<least:=by omega
  have e:least - t.length=(least - (t.length+1))+1:=by omega
  simp only [hd,Vf,ax,if_true,fh,eQ,eG,Nat.zero_div,Nat.zero_mod]
  rw [e,KV,KV,List.replicate_succ',List.append_assoc]
  rfl
 ·rw [Fm h0]
  unfold Vf
  simp only [aj,ax,fh]
  rw [show least - (t.length+1) - (hd (n / 10)).length=least - t.length - ((hd (n / 10)).length+(0+1)) by omega]
  simp
def C2.next {n least:Nat} (i:C2 n least) (h:0<i.m∨i.t.length<least):C2 n least :=
 ⟨i.m / 10,eC (48+i.m%10)::i.t,by have:=i.le;omega,by rw [Ca h];exact i.h,by
  have:=i.tl
  rcases aW i.m with h0 | h0
  ·have e:hd (i.m / 10)=[]:=by rw [h0];rfl
   rw [e]
   have e2:hd i.m=[]:=by rw [h0];rfl
   rw [e2] at this
   simp at this ⊢;omega
  ·have e:=congrArg List.length (Fm h0)
   simp at e ⊢;omega⟩
section
variable {P:aS} {N:Nat} {m:Sl} {Y:ar→Prop} {ty:aO}
theorem PX (a:Addr):a.add 0=a:=by simp [Addr.add]
theorem OT {T e:aO} {x:bz} {hi:Option bz} {vh:Option ai} {q:Option Addr} {n c sz:Nat} {g:Bool} (h:Nat) (hx:ev m x=some (.slice q n c)) (eh:Uq m hi=some vh) (hh:vh=some (.int .i64 (h:Int))) (hT:BM P T=some e) (hs:YJ P e=some (g,sz)) (hc:h≤c) :
  Qt P N m Y (.slice T x none hi none) ty (.slice q h c):=fun a w _ _ _ _ ha _=>by
 subst hh
 have e1:q.map (fun a=>a.add 0)=q:=by cases q<;>simp [PX]
 have hrun:(fz T (.slice q n c) none (some (.int .i64 (h:Int))) none).run P w = .ok (.slice q h c) w:=by
  simp [fz,run_underlying (Q8 hT),Instr.sliceBounds,Instr.sliceBound,asIntOf,hc,Z2 hs,e1]
 simp [execOp,ha.ev hx,ha.Uq eh,Instr.sliceAt,run_underlying (Q8 hT),hrun]
end
def JR (F:Gs) (r:Sr) (l:List Int):Prop:=Q6 F r.q r.n 1 (l.map Qy)∧l.length=r.n∧r.n≤r.cap
theorem JR.le {F F':Gs} {r:Sr} {l:List Int} (h:JR F r l) (k:Gs.le F F'):JR F' r l:=⟨h.1.le k,h.2⟩
theorem Q6.take {F:Gs} {q:Option Addr} {n k:Nat} {l:List Int} (h:Q6 F q n 1 (l.map Qy)) (hl:l.length=n) (hk:k≤n):Q6 F q k 1 ((l.take k).map Qy):=by
 refine⟨by simp;omega,fun h0=>?_⟩
 obtain ⟨b,off,arr,T,e1,e2,e3⟩:=h.2 (by omega)
 refine⟨b,off,arr,T,e1,e2,fun j u hu=>e3 j u ?_⟩
 rw [List.map_take] at hu
 have hj:j<k:=by
  rcases aQ j k with g | g
  ·exact g
  ·rw [aX (by simp;omega)] at hu;cases hu
 rw [List.getElem?_take_of_lt hj] at hu;exact hu
theorem U5 {l:List Int} {k:Nat} (hk:k<l.length) (h:Q4 l=Q4 (l.take (k+1))) (h0:l[k]=0):Q4 l=Q4 (l.take k):=by
 rw [h,aC hk,h0,YY]
theorem U4 {l:List Int} {k:Nat} (hk:k<l.length) (h:Q4 l=Q4 (l.take (k+1))) (h0:l[k]≠0):Q4 l=l.take (k+1):=by
 rw [h,aC hk,VN _ h0]
structure zj (l:List Int) where
 k:Nat
 le:k≤l.length
 h:Q4 l=Q4 (l.take k)
theorem GD {w:ar} {F:Gs} {r:Sr} {l:List Int} (hF:Fits F w) (hR:JR F r l) (hl:l.length≤1000000000):QT Tryz.prog 250 [r.v] w F (fun(_:Unit)=>.slice r.q (Q4 l).length r.cap) (fun _ F=>JR F ⟨r.q,(Q4 l).length,r.cap⟩ (Q4 l)):=by
 obtain ⟨q,n,c⟩:=r
 have hn:=hR.2.1
 have hcap:=hR.2.2
 dsimp only at hn hcap
 refine QT.intro (G:=fun F=>JR F ⟨q,n,c⟩ l) Tryz.func250 rfl (by rfl) rfl rfl hF (fun F' hF'=>hR.le hF')<|wE<|wD rfl<|QG<|QX<|Xb (ι:=zj l) (fun i=>[(0,.slice q i.k c)]) (fun _=>[]) (fun _ F=>JR F ⟨q,n,c⟩ l) (fun i=>i.k) ⟨n,by omega,by rw [← hn,bU]⟩ wK wG (fun _ h=>h) (fun i=>?_)
 have hle:=i.le
 refine QG<|wF rfl<|QA (Qj rfl Qf)<|QA (QU rfl rfl rfl)<|wA rfl ?_
 refine Qn (t:=6) rfl (fun hb6=>?_) (fun hb6=>?_)
 ·
  have hk0:0<i.k:=by have:=wI hb6;omega
  have hk1:i.k - 1<l.length:=by omega
  refine JO _ (fun w F hF h=>h.1.ptr (by dsimp only;omega)) (fun hq=>?_)
  obtain ⟨qb,qo,hq⟩:=hq
  dsimp only at hq
  subst hq
  refine QL rfl rfl<|wA rfl<|QL rfl rfl<|wA rfl<|QL rfl rfl<|QA (Qj rfl Qf)<|QL rfl rfl<|QA (XB rfl rfl (by omega))<|QL rfl rfl<|QA (Qw (i:=i.k - 1) rfl (congrArg (fun z:Int=>some (aa .i64 z)) (by omega)) Qf Qp (by omega))<|QL rfl rfl<|QA (XX (n:=n) (sz:=1) (cs:=l.map Qy) (u:=.int .i64 l[i.k - 1]) rfl Qp (fun F h=>h.1) (by omega) (by simp [hk1,Qy]))<|QL rfl rfl<|QA (QU rfl rfl rfl)<|QA (Qi rfl rfl rfl)<|QE<|QC ?_
  refine QQ rfl (fun hc=>?_) (fun hc=>?_)
  ·
   refine QO<|QC<|QX<|QB<|wA rfl<|wA rfl<|QA (Qj rfl Qf)<|QA (XB rfl rfl (by omega))<|QA (OT (i.k - 1) rfl rfl (congrArg (fun z:Int=>some (aa .i64 z)) (by omega)) Qf Qp (by omega))<|wB rfl<|QE<|Qk ?_
   exact Qo (⟨i.k - 1,by omega,U5 hk1 (by rw [show i.k - 1+1=i.k by omega];exact i.h) (by simpa using hc)⟩:zj l) (by show i.k - 1<i.k;omega) wK wG (fun _ h=>h)
  ·
   refine Qz ?_
   repeat (first | refine Qb ?_ | refine QV (by rfl) ?_)
   refine Qc<|QC<|wF rfl<|wD rfl<|QS ?_
   exact QP () rfl (.tmp rfl .nil) (congrArg (fun k:Nat=>Value.slice _ k c) (by have e:=U4 hk1 (by rw [show i.k - 1+1=i.k by omega];exact i.h) (by simpa using hc);rw [show i.k - 1+1=i.k by omega] at e;rw [e];simp;omega)) (fun F h=>by have hz:(Q4 l).length≤l.length:=Xz l;exact⟨(by have:=h.1.take hn (show(Q4 l).length≤n by omega);rw [← H2] at this;exact this),rfl,(by show(Q4 l).length≤c;omega)⟩)
 ·
  refine QN rfl rfl rfl<|QN rfl rfl rfl<|QN rfl rfl rfl<|QN rfl rfl rfl<|QN rfl rfl rfl<|QN rfl rfl rfl<|QN rfl rfl rfl<|QA (Qh rfl rfl rfl)<|wC<|YQ rfl<|Qz ?_
  repeat (first | refine Qb ?_ | refine QV (by rfl) ?_)
  refine Qc<|QC<|wF rfl<|wD rfl<|QS ?_
  exact QP () rfl (.tmp rfl .nil) (congrArg (fun k:Nat=>Value.slice _ k c) (by have h0:i.k=0:=(by have:=wJ hb6;omega);have e:=i.h;rw [h0] at e;simp [Pf] at e;rw [e,h0];rfl)) (fun F h=>by have hz:(Q4 l).length≤l.length:=Xz l;exact⟨(by have:=h.1.take hn (show(Q4 l).length≤n by omega);rw [← H2] at this;exact this),rfl,(by show(Q4 l).length≤c;omega)⟩)
theorem Qx.fix {w0:ar} {F0:Gs} {bs1 ob:List (Nat×Obj)} {G:Gs→Prop} {T:aO} {sz n:Nat} {v:ai} {cs:List ai} (hr:Qx T sz v n cs ob) :
  ∃ r:Sr,v=r.v∧r.n=n∧n≤r.cap∧∀ w,St ⟨w0,F0,bs1++ob,G⟩ w→St ⟨w0,F0,bs1,fun F=>G F∧Q6 F r.q n sz cs⟩ w:=by
 cases hr with
 |nil=>exact⟨⟨bY,0,0⟩,rfl,rfl,aq _,fun w hw=>by
   have:=hw.Bu (G':=fun F=>G F∧Q6 F bY 0 sz []) (fun F h=>⟨h,Q6.nil F bY sz⟩)
   simpa using this⟩
 |some h1 h2 h3 h4 =>
  rename_i b cap rest
  refine⟨⟨fm ⟨b,0,bY⟩,n,cap⟩,rfl,rfl,h3,fun w hw=>?_⟩
  have:=St.freeze (pre:=bs1) (post:=[]) (b:=b) hw
  rw [eG] at this
  refine this.Bu fun F h=>⟨h.1,h1,fun _=>⟨b,0,_,T,rfl,h.2,fun j u hu=>?_⟩⟩
  have hj:j<cs.length:=by rcases aQ j cs.length with g | g;exact g;rw [aX g] at hu;cases hu
  rw [aM]
  simp only [aG]
  rw [bm,if_pos hj];exact hu
theorem pX {Q:Exit→Act→ar→Prop} {e:Exit} {N:Nat} {m:Sl} {E E':Env} (h:∀ w,St E w→St E' w) (k:Fin Q e N m E'):Fin Q e N m E:=fun a w ha hw=>k a w ha (h w hw)
theorem Ps {w:ar} {F:Gs} {r:Sr} {l:List Int} {i:Nat} (hF:Fits F w) (hR:JR F r l) (hi:i≤1000000000):QZ Tryz.prog 275 [r.v,.int .i64 (i:Int)] w F (.int .i64 (l.getD i 0)):=by
 obtain ⟨q,n,c⟩:=r
 have hn:=hR.2.1
 dsimp only at hn
 refine QT.intro (G:=fun F=>JR F ⟨q,n,c⟩ l) Tryz.func275 rfl (by rfl) rfl rfl hF (fun F' hF'=>hR.le hF') ?_
 dsimp only [Sr.v]
 refine wE<|wD rfl<|QG<|wF rfl<|wA rfl<|QA (Qj rfl Qf)<|QA (QU rfl rfl rfl)<|QE<|QC ?_
 refine QQ rfl (fun hc=>?_) (fun hc=>?_)
 ·
  have hk1:i<l.length:=by have:=wI hc;omega
  refine ZA _ (fun w F hF h=>h.1.ptr (by dsimp only;omega)) (fun hq=>?_)
  obtain ⟨qb,qo,hq⟩:=hq
  dsimp only at hq
  subst hq
  refine wF rfl<|wA rfl<|QA (Qw (i:=i) rfl rfl Qf Qp (by omega))<|QA (XX (n:=n) (sz:=1) (cs:=l.map Qy) (u:=.int .i64 l[i]) rfl Qp (fun F h=>h.1) (by omega) (by simp [hk1,Qy]))<|wD rfl<|QS ?_
  exact QP () rfl (.tmp rfl .nil) (congrArg (aa .i64) (by simp [hk1])) (fun _ _=>trivial)
 ·
  refine QO<|QC<|wE<|wD rfl<|QS ?_
  exact QP () rfl (.tmp rfl .nil) (congrArg (aa .i64) (by have:=wJ hc;simp [show l.length≤i by omega])) (fun _ _=>trivial)
def B9:Int:=1000000000
structure pk (a b:List Int) where
 i:Nat
 out:List Int
 carry:Int
 v:ai
 ob:List (Nat×Obj)
 le:i≤max a.length b.length+1
 len:out.length=i
 dg:DG B9 out
 c0:0≤carry
 c1:carry≤1
 cz:max a.length b.length<i→carry=0
 h:dv B9 out+B9^i*carry=dv B9 (a.take i)+dv B9 (b.take i)
 hr:Qx 3 1 v out.length (out.map Qy) ob
theorem K7 (B:Int) (l:List Int) (n:Nat):dv B (l.take (n+1))=dv B (l.take n)+B^n*l.getD n 0:=by
 rcases aQ n l.length with h | h
 ·rw [Wj B l n h];simp [h]
 ·rw [ah (by omega),ah h];simp [h]
theorem SP {l:List Int} (h:DG B9 l) (i:Nat):0≤l.getD i 0∧l.getD i 0<1000000000:=h.getD (by decide) i
theorem RF {l:List Int} {i:Nat} (h:l.length≤i):l.getD i 0=0:=by simp [h]
theorem pK {a b out:List Int} {i:Nat} {c s:Int} (hl:out.length=i) (h:dv B9 out+B9^i*c=dv B9 (a.take i)+dv B9 (b.take i)) (hs:s=a.getD i 0+b.getD i 0+c) :
  dv B9 (out++[s%B9])+B9^(i+1)*(s / B9)=dv B9 (a.take (i+1))+dv B9 (b.take (i+1)):=by
 rw [XS,hl,K7,K7,aV,bT]
 have e:s%B9+B9*(s / B9)=s:=bj s B9
 have e2:B9^i*(s%B9)+B9^i*(B9*(s / B9))=B9^i*s:=by rw [← bJ,e]
 rw [fy,e2,hs,bJ,bJ]
 omega
abbrev Mn (P:aS) (f:FuncId) (args:List ai) (w:ar) (F:Gs) (p:List Int→Prop):Prop:=QT P f args w F (fun(c:Sr×List Int)=>.slice c.1.q c.1.n c.1.cap) (fun c F=>JR F c.1 c.2∧DG B9 c.2∧p c.2)
theorem MB {w:ar} {F:Gs} {ra rb:Sr} {a b:List Int} (hF:Fits F w) (hA:JR F ra a) (hB:JR F rb b) (da:DG B9 a) (db:DG B9 b) (la:a.length≤100000000) (lb:b.length≤100000000) :
  Mn Tryz.prog 237 [ra.v,rb.v] w F (fun l=>dv B9 l=dv B9 a+dv B9 b∧l.length≤max a.length b.length+1):=by
 have na:=hA.2.1
 have nb:=hB.2.1
 have h9:B9=1000000000:=rfl
 refine QT.intro (G:=fun F=>JR F ra a∧JR F rb b) Tryz.func237 rfl (by rfl) rfl rfl hF (fun F' hF'=>⟨hA.le hF',hB.le hF'⟩)<|wE<|wD rfl<|wE<|wD rfl<|wE<|wD rfl<|QG<|wE<|wD rfl<|QX ?_
 refine Xb (ι:=pk a b) (fun i=>[(0,ra.v),(1,rb.v),(5,i.v),(6,.int .i64 i.carry),(7,.int .i64 (i.i:Int))]) (fun i=>i.ob) (fun _ F=>JR F ra a∧JR F rb b) (fun i=>max a.length b.length+1 - i.i)
  ⟨0,[],0,.slice none 0 0,[],aF _,rfl,DG.nil _,by decide,by decide,fun _=>rfl,by simp,.nil⟩ wO (List.nil_sublist _) (fun _ h=>h) (fun i=>?_)
 have hle:=i.le
 have hlen:=i.len
 have hc0:=i.c0
 have hc1:=i.c1
 refine QG ?_
 refine VZ 22 (.bool (decide ((i.i:Int)<ra.n)||decide ((i.i:Int)<rb.n)||decide (i.carry>0))) ?_ ?_
 ·
  refine QB<|wA rfl<|wA rfl<|QA (Qj rfl Qf)<|QA (QU rfl rfl rfl)<|wA rfl ?_
  refine Qn (t:=13) rfl (fun hb13=>?_) (fun hb13=>?_)
  ·
   refine QN rfl rfl rfl<|QN rfl rfl rfl<|QN rfl rfl rfl<|QN rfl rfl rfl<|QA (Qi rfl rfl rfl)<|wA rfl<|QN rfl rfl rfl<|QN rfl rfl rfl<|QA (Qi rfl rfl rfl)<|QE ?_
   exact Js (exd 15 rfl rfl) (congrArg (fun b=>some (ag b)) (by rw [ae];simp_all;try omega)) wG (fun _ h=>h)
  ·
   refine QL rfl rfl<|wA rfl<|QL rfl rfl<|wA rfl<|QL rfl rfl<|QA (Qj rfl Qf)<|QL rfl rfl<|QA (QU rfl rfl rfl)<|QA (Qh rfl rfl rfl)<|wA rfl ?_
   refine Qn (t:=19) rfl (fun hb19=>?_) (fun hb19=>?_)
   ·
    refine QN rfl rfl rfl<|QN rfl rfl rfl<|QA (Qi rfl rfl rfl)<|QE ?_
    exact Js (exd 16 rfl rfl) (congrArg (fun b=>some (ag b)) (by rw [ae];simp_all;try omega)) wG (fun _ h=>h)
   ·
    refine QL rfl rfl<|wA rfl<|QL rfl rfl<|QA (QU rfl rfl rfl)<|QA (Qh rfl rfl rfl)<|QE ?_
    exact Js (exd 16 rfl rfl) (congrArg (fun b=>some (ag b)) (by rw [ae];simp_all;try omega)) wG (fun _ h=>h)
 ·
  refine QQ rfl (fun hc=>?_) (fun hc=>?_)
  ·
   have hi:i.i≤max a.length b.length:=by
    rcases aQ (max a.length b.length) i.i with g | g
    ·have:=i.cz g
     simp at hc;omega
    ·exact g
   have b1:=SP da i.i
   have b2:=SP db i.i
   refine QO<|QC<|QG<|QX<|wF rfl<|wA rfl<|QH rfl (fun w F hF h9=>Ps (r:=ra) (l:=a) hF h9.1 (by omega)) (fun _=>wA rfl<|wA rfl<|QH rfl (fun w F hF h9=>Ps (r:=rb) (l:=b) hF h9.1.2 (by omega)) (fun _=>QA (Qs rfl rfl (by omega))<|wA rfl<|QA (Qs rfl rfl (by omega))<|wD rfl<|wF rfl<|wA rfl<|QA (Kn rfl rfl (by omega) (by omega))<|QW rfl (Q8 Qf) Qp Vv rfl rfl (fun b37=>?_)))
   refine Kf (bs1:=[]) (ob:=i.ob) (k:=1) (sz:=1) (news:=[.int .i64 ((a.getD i.i 0+b.getD i.i 0+i.carry)%1000000000)]) rfl rfl Qf Qp Vv rfl Dp i.hr (Src.row (off:=0) (fun F h=>h.2) (fun j v hv=>by rw [aM];show([aa .i64 ((a.getD i.i 0+b.getD i.i 0+i.carry)%1000000000)].toArray)[j]?=some v;rw [aG];exact hv) rfl) (by omega) (by omega) (fun u hu=>by rw [List.mem_singleton.1 hu];rfl) (fun v' ob' hr'=>?_)
   refine wD rfl<|QB<|wA rfl<|QA (W4 rfl rfl (by omega) (by omega) (by omega))<|wB rfl<|QE<|Qk<|QC<|QB<|wA rfl<|QA (Qs rfl rfl (by omega))<|wB rfl<|QE ?_
   exact Qo (⟨i.i+1,i.out++[(a.getD i.i 0+b.getD i.i 0+i.carry)%B9],(a.getD i.i 0+b.getD i.i 0+i.carry) / B9,v',ob',by omega,by simp [hlen],i.dg.append (DG.cons (by rw [h9];omega) (by rw [h9];omega) (DG.nil _)),by rw [h9];omega,by rw [h9];omega,fun g=>by rw [RF (l:=a) (by omega),RF (l:=b) (by omega),h9];omega,pK hlen i.h rfl,by simpa [Qy,h9] using hr'⟩:pk a b) (by show max a.length b.length+1 - (i.i+1)<max a.length b.length+1 - i.i;omega) wO wG (fun F h=>h.1.1.1)
  ·
   refine Qz ?_
   repeat (first | refine Qb ?_ | refine QV (by rfl) ?_)
   refine Qc<|QC<|wF rfl<|wD rfl<|QS ?_
   obtain ⟨r,hv,hrn,hrc,hfix⟩:=Qx.fix (w0:=w) (F0:=F) (bs1:=[]) (G:=fun F=>JR F ra a∧JR F rb b) i.hr
   refine pX hfix ?_
   have hex:max a.length b.length≤i.i∧i.carry=0:=by simp at hc;omega
   exact QP ((r,i.out):Sr×List Int) rfl (.tmp rfl .nil) hv.symm (fun F h=>⟨⟨by rw [hrn];exact h.2,hrn.symm,by show r.n≤r.cap;omega⟩,i.dg,by have e:=i.h;rw [hex.2,ah (by omega),ah (by omega)] at e;simpa using e,by show i.out.length≤_;omega⟩)
structure pj (a b:List Int) where
 k:Nat
 le:k≤a.length
 h:a.drop k=b.drop k
theorem I4 {a b:List Int} {k:Nat} (ha:k<a.length) (hb:k<b.length) (h:a.drop (k+1)=b.drop (k+1)) (e:a[k]=b[k]):a.drop k=b.drop k:=by
 rw [aE ha,aE hb,h,e]
theorem Gy {w:ar} {F:Gs} {ra rb:Sr} {a b:List Int} (hF:Fits F w) (hA:JR F ra a) (hB:JR F rb b) (da:DG B9 a) (db:DG B9 b) (za:NZ a) (zb:NZ b) (la:a.length≤100000000) (lb:b.length≤100000000) :
  QZ Tryz.prog 238 [ra.v,rb.v] w F (.int .i64 (Zd (dv B9 a) (dv B9 b))):=by
 have h91:(1:Int)<B9:=by decide
 have h90:(0:Int)<B9:=by decide
 obtain ⟨q,n,c⟩:=ra
 obtain ⟨q',n',c'⟩:=rb
 have na:=hA.2.1
 have nb:=hB.2.1
 dsimp only at na nb
 refine QT.intro (G:=fun F=>JR F ⟨q,n,c⟩ a∧JR F ⟨q',n',c'⟩ b) Tryz.func238 rfl (by rfl) rfl rfl hF (fun F' hF'=>⟨hA.le hF',hB.le hF'⟩) ?_
 dsimp only [Sr.v]
 refine wE<|wD rfl<|QG<|wF rfl<|QA (Qj rfl Qf)<|wA rfl<|QA (Qj rfl Qf)<|QA (QU rfl rfl rfl)<|QE<|QC ?_
 refine QQ rfl (fun hc=>?_) (fun hc=>?_)
 ·
  refine QG<|wF rfl<|QA (Qj rfl Qf)<|wA rfl<|QA (Qj rfl Qf)<|QA (QU rfl rfl rfl)<|QE<|QC ?_
  refine QQ rfl (fun hc=>?_) (fun hc2=>?_)
  ·
   refine wE<|wD rfl<|QS ?_
   exact QP () rfl (.tmp rfl .nil) (congrArg (aa .i64) (Vr (Xa h91 da db zb (by simp at hc;omega)))) (fun _ _=>trivial)
  ·
   refine QO<|QC<|wE<|wD rfl<|QS ?_
   exact QP () rfl (.tmp rfl .nil) (congrArg (aa .i64) (HH (Xa h91 db da za (by simp at hc hc2;omega)))) (fun _ _=>trivial)
 ·
  refine QO<|QC<|QG<|wF rfl<|QA (Qj rfl Qf)<|QA (XB rfl rfl (by omega))<|wB rfl<|QE<|QC ?_
  have hab:n=n':=by simp at hc;omega
  refine QX<|Xb (ι:=pj a b) (fun i=>[(0,.slice q n c),(1,.slice q' n' c'),(5,.int .i64 ((i.k:Int) - 1))]) (fun _=>[]) (fun _ F=>JR F ⟨q,n,c⟩ a∧JR F ⟨q',n',c'⟩ b) (fun i=>i.k) ⟨n,by omega,by rw [bE (by omega),bE (by omega)]⟩ wM wG (fun _ h=>h) (fun i=>?_)
  have hle:=i.le
  refine QG<|wF rfl<|QA (QU rfl rfl rfl)<|QE<|QC ?_
  refine QQ rfl (fun hc=>?_) (fun hc=>?_)
  ·
   refine QO<|QC<|QG<|QX<|QG<|QG ?_
   have hk0:0<i.k:=by have:=wI hc;omega
   have hka:i.k - 1<a.length:=by omega
   have hkb:i.k - 1<b.length:=by omega
   refine ZA _ (fun w F hF h=>h.1.1.ptr (by dsimp only;omega)) (fun hq=>?_)
   obtain ⟨qb,qo,hq⟩:=hq
   dsimp only at hq
   subst hq
   refine ZA _ (fun w F hF h=>h.2.1.ptr (by dsimp only;omega)) (fun hq=>?_)
   obtain ⟨qb',qo',hq⟩:=hq
   dsimp only at hq
   subst hq
   refine JV wG mixed (by kernel_rfl)<|QK (QD rfl)<|QK (QD rfl)<|QK (Qw (i:=i.k - 1) rfl (congrArg (fun z:Int=>some (aa .i64 z)) (by omega)) Qf Qp (by omega))<|QK (XX (n:=n) (sz:=1) (cs:=a.map Qy) (u:=.int .i64 a[i.k - 1]) rfl Qp (fun F h=>h.1.1) (by omega) (by simp [hka,Qy]))<|QK (QD rfl)<|QK (QD rfl)<|QK (Qw (i:=i.k - 1) rfl (congrArg (fun z:Int=>some (aa .i64 z)) (by omega)) Qf Qp (by omega))<|QK (XX (n:=n') (sz:=1) (cs:=b.map Qy) (u:=.int .i64 b[i.k - 1]) rfl Qp (fun F h=>h.2.1) (by omega) (by simp [hkb,Qy]))<|QK (QU rfl rfl rfl)<|Q3<|QC ?_
   refine QQ rfl (fun hc=>?_) (fun hca=>?_)
   ·
    refine wE<|wD rfl<|QS ?_
    repeat (first | refine JC ?_ | refine Q5 ?_)
    exact QP () rfl (.tmp rfl .nil) (congrArg (aa .i64) (Vr (Sf h90 da db (by omega) (i.k - 1) hka (by rw [show i.k - 1+1=i.k by omega];exact i.h) (wI hc)))) (fun _ _=>trivial)
   ·
    refine QO<|QC<|QG<|JV wG mixed (by kernel_rfl)<|QK (QD rfl)<|QK (QD rfl)<|QK (Qw (i:=i.k - 1) rfl (congrArg (fun z:Int=>some (aa .i64 z)) (by omega)) Qf Qp (by omega))<|QK (XX (n:=n) (sz:=1) (cs:=a.map Qy) (u:=.int .i64 a[i.k - 1]) rfl Qp (fun F h=>h.1.1) (by omega) (by simp [hka,Qy]))<|QK (QD rfl)<|QK (QD rfl)<|QK (Qw (i:=i.k - 1) rfl (congrArg (fun z:Int=>some (aa .i64 z)) (by omega)) Qf Qp (by omega))<|QK (XX (n:=n') (sz:=1) (cs:=b.map Qy) (u:=.int .i64 b[i.k - 1]) rfl Qp (fun F h=>h.2.1) (by omega) (by simp [hkb,Qy]))<|QK (QU rfl rfl rfl)<|Q3<|QC ?_
    refine QQ rfl (fun hc=>?_) (fun hcb=>?_)
    ·
     refine wE<|wD rfl<|QS ?_
     repeat (first | refine JC ?_ | refine Q5 ?_)
     exact QP () rfl (.tmp rfl .nil) (congrArg (aa .i64) (HH (Sf h90 db da (by omega) (i.k - 1) hkb (by rw [show i.k - 1+1=i.k by omega];exact i.h.symm) (wI hc)))) (fun _ _=>trivial)
    ·
     refine QO<|Qk<|QC<|QB<|wA rfl<|QA (XB rfl rfl (by omega))<|wB rfl<|QE ?_
     exact Qo (⟨i.k - 1,by omega,I4 hka hkb (by rw [show i.k - 1+1=i.k by omega];exact i.h) (by simp at hca hcb;omega)⟩:pj a b) (by show i.k - 1<i.k;omega) ⟨rfl,rfl,congrArg (fun z:Int=>some (aa .i64 z)) (by dsimp only;omega),trivial⟩ wG (fun _ h=>h)
  ·
   refine Qz ?_
   repeat (first | refine Qb ?_ | refine QV (by rfl) ?_)
   refine Qc<|QC<|wE<|wD rfl<|QS ?_
   exact QP () rfl (.tmp rfl .nil) (congrArg (aa .i64) (by have h0:i.k=0:=(by have:=wJ hc;omega);have e:=i.h;rw [h0] at e;simp at e;rw [e];exact ML _)) (fun _ _=>trivial)
theorem Ra {P:aS} {Q:Exit→Act→ar→Prop} {c:Code} {N:Nat} {m:Sl} {E E':Env} (h:∀ w,St E w→St E' w) (k:J P c Q N m E'):J P c Q N m E:=fun a w ha hw=>k a w ha (h w hw)
theorem gk {a b out:List Int} {i:Nat} {c c' d:Int} (hl:out.length=i) (h:dv B9 out+dv B9 (b.take i)=dv B9 (a.take i)+B9^i*c) (hd:d=a.getD i 0 - b.getD i 0 - c+B9*c') :
  dv B9 (out++[d])+dv B9 (b.take (i+1))=dv B9 (a.take (i+1))+B9^(i+1)*c':=by
 rw [XS,hl,K7,K7,aV,bT,hd,bJ,bI,bI]
 omega
structure uk (a b:List Int) where
 i:Nat
 out:List Int
 borrow:Int
 v:ai
 ob:List (Nat×Obj)
 le:i≤a.length
 len:out.length=i
 dg:DG B9 out
 c0:0≤borrow
 c1:borrow≤1
 h:dv B9 out+dv B9 (b.take i)=dv B9 (a.take i)+B9^i*borrow
 hr:Qx 3 1 v out.length (out.map Qy) ob
theorem Ha.one {l:List ai} {v:ai}:∀ {n:Nat},l[n]?=some v→Ha l n [v]:=by
 induction l with
 |nil=>intro n h;simp at h
 |cons x l ih =>
  intro n h
  cases n with
  |zero=>simp at h;subst h;exact .here .nil
  |succ n=>exact .skip (ih (by simpa using h))
theorem Yt.one {l:List ai} {v:ai}:∀ {n:Nat},n<l.length→Yt l n [v] (l.set n v):=by
 induction l with
 |nil=>intro n h;simp at h
 |cons x l ih =>
  intro n h
  cases n with
  |zero=>exact .here .nil
  |succ n=>exact .skip (ih (by simpa using h))
def Gk (la lb:List Int) (i j:Nat) (x:Int) (o:List Int) (c:Int):Prop :=
 o.length=la.length+lb.length∧DG B9 o∧(∀ p,i+lb.length≤p→Qa o p=0)∧(0≤c∧c<B9) ∧
  dv B9 o+B9^(i+j)*c=dv B9 (la.take i)*dv B9 lb+B9^i*(x*dv B9 (lb.take j))
theorem JF:(0:Int)<B9:=by decide
theorem Ff {x y o c:Int} (hx:0≤x∧x<B9) (hy:0≤y∧y<B9) (ho:0≤o∧o<B9) (hc:0≤c∧c<B9):0≤x*y∧x*y≤999999998000000001∧0≤o+x*y+c∧(o+x*y+c) / B9<B9:=by
 have h9:B9=1000000000:=rfl
 have h0:=bN hx.1 hy.1
 have h1:x*y≤(B9 - 1)*(B9 - 1):=bO (by omega) (by omega) hy.1 (by omega)
 generalize x*y=m at *
 have q:=h9 ▸ hx.2
 generalize hB:B9=B at *
 subst h9
 omega
theorem Gk.step {la lb o:List Int} {i j:Nat} {x c s:Int} (h:Gk la lb i j x o c) (hx:0≤x∧x<B9) (hb:DG B9 lb) (hj:j<lb.length) (hi:i<la.length) (hs:s=Qa o (i+j)+x*Qa lb j+c) :
  Gk la lb i (j+1) x (o.set (i+j) (s%B9)) (s / B9):=by
 obtain ⟨h1,h2,h3,h4,h5⟩:=h
 obtain ⟨m0,m1,m2,m3⟩:=Ff hx (hb.Qa JF j) (h2.Qa JF (i+j)) h4
 rw [← hs] at m2 m3
 refine⟨by simpa using h1,h2.set _ (cb _ (by decide)) (bP _ JF),?_,⟨bL m2 (by decide),m3⟩,?_⟩
 ·intro p hp
  rw [Y1 (by omega),if_neg (by omega)];exact h3 p hp
 ·rw [Ge B9 (by omega),VU,← bS,aV]
  have e0:s%B9+B9*(s / B9)=s:=bj s B9
  generalize s%B9=lo at *
  generalize s / B9=hi at *
  have e:B9^(i+j)*(lo+B9*hi)=B9^(i+j)*(Qa o (i+j)+x*Qa lb j+c):=by rw [e0,hs]
  rw [eH] at *
  generalize B9^i=u at *
  generalize B9^j=v at *
  generalize B9=B at *
  grind
theorem Gk.row {la lb o:List Int} {i:Nat} {x c:Int} (h:Gk la lb i lb.length x o c) (hi:i<la.length) (hx:x=Qa la i) :
  Gk la lb (i+1) 0 0 (o.set (i+lb.length) c) 0:=by
 obtain ⟨h1,h2,h3,h4,h5⟩:=h
 refine⟨by simpa using h1,h2.set _ h4.1 h4.2,?_,⟨bR _,JF⟩,?_⟩
 ·intro p hp
  rw [Y1 (by omega),if_neg (by omega)];exact h3 p (by omega)
 ·rw [Ge B9 (by omega),h3 _ (aq _),VU,← hx]
  rw [bU] at h5
  simp only [eR,Int.add_zero,fF,Int.sub_zero]
  rw [h5]
  generalize B9^i=u at *
  generalize B9=B at *
  grind
theorem Gk.start (la lb:List Int):Gk la lb 0 0 0 (bD (la.length+lb.length) 0) 0:=by
 refine⟨by simp,DG.replicate JF _,?_,⟨bR _,JF⟩,by rw [No];simp⟩
 intro p _;unfold Qa;split<;>simp
theorem Gk.next {la lb o:List Int} {i:Nat} (h:Gk la lb i 0 0 o 0) (x:Int):Gk la lb i 0 x o 0:=by
 obtain ⟨h1,h2,h3,h4,h5⟩:=h
 exact⟨h1,h2,h3,h4,by simpa using h5⟩
theorem Gk.stop {la lb o:List Int} {i:Nat} (h:Gk la lb i 0 0 o 0) (hi:la.length≤i):dv B9 o=dv B9 la*dv B9 lb:=by
 have e:=h.2.2.2.2
 rw [ah hi] at e
 simpa using e
theorem Dl {o:List Int} {k:Nat} (h:k<o.length):(o.map Qy)[0+k*1]?=some (.int .i64 (Qa o k)):=by
 rw [Xx h];simp [h,Qy]
theorem JJ {o:List Int} {k:Nat} (h:k<o.length):(o.map Qy)[k*1]?=some (.int .i64 (Qa o k)):=by
 rw [Xx h];simp [h,Qy]
theorem G2 {o:List Int} {k:Nat} (h:k<o.length) (x:Int):Yt (o.map Qy) (0+k*1) [.int .i64 x] ((o.set k x).map Qy):=by
 have:=Yt.one (l:=o.map Qy) (n:=0+k*1) (v:=.int .i64 x) (by simpa using h)
 simpa [List.map_set,Qy] using this
structure pP (a b:List Int) where
 i:Nat
 o:List Int
 le:i≤a.length
 h:Gk a b i 0 0 o 0
structure pO (a b:List Int) (i:Nat) where
 j:Nat
 o:List Int
 c:Int
 le:j≤b.length
 h:Gk a b i j (Qa a i) o c
theorem Gw {w:ar} {F:Gs} {ra rb:Sr} {a b:List Int} (hF:Fits F w) (hA:JR F ra a) (hB:JR F rb b) (da:DG B9 a) (db:DG B9 b) (la:a.length≤100000000) (lb:b.length≤100000000) :
  Mn Tryz.prog 240 [ra.v,rb.v] w F (fun l=>dv B9 l=dv B9 a*dv B9 b∧NZ l∧l.length≤a.length+b.length):=by
 obtain ⟨q,n,c⟩:=ra
 obtain ⟨q',n',c'⟩:=rb
 have na:=hA.2.1
 have nb:=hB.2.1
 dsimp only at na nb
 have h9:B9=1000000000:=rfl
 refine QT.intro (G:=fun F=>JR F ⟨q,n,c⟩ a∧JR F ⟨q',n',c'⟩ b) Tryz.func240 rfl (by rfl) rfl rfl hF (fun F' hF'=>⟨hA.le hF',hB.le hF'⟩) ?_
 dsimp only [Sr.v]
 refine wE<|wD rfl<|wF rfl<|QA (Qj rfl Qf)<|wA rfl<|QA (Qj rfl Qf)<|QA (Qs rfl rfl (by omega))<|PC (n:=n+n') (bytes:=8) rfl rfl Qf Qp Vv rfl Dp (by omega) (by omega) (fun bk=>?_)
 rw [show X9 [aa .i64 0] (n+n')=(bD (a.length+b.length) (0:Int)).map Qy by rw [VL,na,nb];simp [Qy]]
 refine wD rfl<|QG<|wE<|wD rfl<|QX ?_
 refine Xb (ι:=pP a b) (fun i=>[(0,.slice q n c),(1,.slice q' n' c'),(5,.slice (some ⟨bk,0,none⟩) (n+n') (n+n')),(6,.int .i64 (i.i:Int))]) (fun i=>[(bk,.cells (i.o.map Qy).toArray 3 (0,0))]) (fun _ F=>JR F ⟨q,n,c⟩ a∧JR F ⟨q',n',c'⟩ b) (fun i=>a.length - i.i)
  ⟨0,_,aF _,Gk.start a b⟩ wN wG (fun _ h=>h) (fun i=>?_)
 have hile:=i.le
 refine QG<|wF rfl<|wA rfl<|QA (Qj rfl Qf)<|QA (QU rfl rfl rfl)<|QE<|QC ?_
 refine QQ rfl (fun hc=>?_) (fun hc=>?_)
 ·
  have hi:i.i<n:=by have:=wI hc;omega
  have hia:i.i<a.length:=by omega
  refine ZA _ (fun w F hF h=>h.1.1.ptr (by dsimp only;omega)) (fun hq=>?_)
  obtain ⟨qb,qo,hq⟩:=hq
  dsimp only at hq
  subst hq
  refine QO<|QC<|QG<|QX<|wE<|wD rfl<|QG<|wE<|wD rfl<|QX ?_
  refine Xb (ι:=pO a b i.i) (fun i2=>[(0,.slice (some ⟨qb,qo,none⟩) n c),(1,.slice q' n' c'),(5,.slice (some ⟨bk,0,none⟩) (n+n') (n+n')),(6,.int .i64 (i.i:Int)),(7,.int .i64 i2.c),(8,.int .i64 (i2.j:Int))]) (fun i2=>[(bk,.cells (i2.o.map Qy).toArray 3 (0,0))]) (fun _ F=>JR F ⟨some ⟨qb,qo,none⟩,n,c⟩ a∧JR F ⟨q',n',c'⟩ b) (fun i2=>b.length - i2.j)
   ⟨0,i.o,0,aF _,i.h.next _⟩ wP wG (fun _ h=>h) (fun i2=>?_)
  have hjle:=i2.le
  have hol:i2.o.length=a.length+b.length:=i2.h.1
  have hcc:=i2.h.2.2.2.1
  refine QG<|wF rfl<|wA rfl<|QA (Qj rfl Qf)<|QA (QU rfl rfl rfl)<|QE<|QC ?_
  refine QQ rfl (fun hc=>?_) (fun hc=>?_)
  ·
   have hj:i2.j<n':=by have:=wI hc;omega
   have hjb:i2.j<b.length:=by omega
   have hko:i.i+i2.j<i2.o.length:=by omega
   have bx:=da.Qa JF i.i
   have by':=db.Qa JF i2.j
   have bo:=i2.h.2.1.Qa JF (i.i+i2.j)
   have bd:=Ff bx by' bo hcc
   have hst:=i2.h.step bx db hjb hia rfl
   refine ZA _ (fun w F hF h=>h.2.1.ptr (by dsimp only;omega)) (fun hq=>?_)
   obtain ⟨qb',qo',hq⟩:=hq
   dsimp only at hq
   subst hq
   refine QO<|QC<|QG<|QX<|QG<|JV wG mixed (by kernel_rfl)<|QK (QD rfl)<|QK (QD rfl)<|QK (QD rfl)<|QK (Qs rfl rfl (by omega))<|QK (Qw (i:=i.i+i2.j) rfl rfl Qf Qp (by omega))<|QK (YZ (c:=i2.o.map Qy) (T':=3) rfl Qp .here (Dl hko))<|QK (QD rfl)<|QK (QD rfl)<|QK (Qw (i:=i.i) rfl rfl Qf Qp (by omega))<|QK (XX (n:=n) (sz:=1) (cs:=a.map Qy) rfl Qp (fun F h=>h.1.1) (by omega) (JJ hia))<|QK (QD rfl)<|QK (QD rfl)<|QK (Qw (i:=i2.j) rfl rfl Qf Qp (by omega))<|QK (XX (n:=n') (sz:=1) (cs:=b.map Qy) rfl Qp (fun F h=>h.2.1) (by omega) (JJ hjb))<|QK (GF rfl rfl (by omega))<|QK (Qs rfl rfl (by omega))<|QK (QD rfl)<|QK (Qs rfl rfl (by omega))<|QK (QF rfl) ?_
   refine Q3<|QC<|wF rfl<|wA rfl<|wA rfl<|QA (Qs rfl rfl (by omega))<|wA rfl<|QA (Kn rfl rfl (by omega) (by omega))<|QA (Qw (i:=i.i+i2.j) rfl rfl Qf Qp (by omega))<|QR (vs:=[_]) rfl rfl rfl Qp rfl .here (G2 hko _) wK<|wC<|QB<|wA rfl<|QA (W4 rfl rfl (by omega) (by omega) (by omega))<|wB rfl<|QE<|Qk<|QC<|QB<|wA rfl<|QA (Qs rfl rfl (by omega))<|wB rfl ?_
   refine QE ?_
   exact Qo (⟨i2.j+1,i2.o.set (i.i+i2.j) _,_,by omega,hst⟩:pO a b i.i) (by show b.length - (i2.j+1)<b.length - i2.j;omega) wP wG (fun _ h=>h)
  ·
   have hjn:i2.j=b.length:=by have:=wJ hc;omega
   have hko2:i.i+n'<i2.o.length:=by omega
   have hrow:Gk a b (i.i+1) 0 0 (i2.o.set (i.i+n') i2.c) 0:=by
    have e:=i2.h
    rw [hjn] at e
    have:=e.row hia rfl
    rwa [nb] at this
   have hz:Qa i2.o (i.i+n')=0:=i2.h.2.2.1 _ (by omega)
   refine Qz ?_
   repeat (first | refine Qb ?_ | refine QV (by rfl) ?_)
   refine Qc<|QC<|QB<|wA rfl<|wA rfl<|wA rfl<|QA (Qj rfl Qf)<|QA (Qs rfl rfl (by omega))<|wA rfl<|wA rfl<|wA rfl<|QA (Qj rfl Qf)<|QA (Qs rfl rfl (by omega))<|QA (Qw (i:=i.i+n') rfl rfl Qf Qp (by omega))<|QA (YZ (c:=i2.o.map Qy) (T':=3) rfl Qp .here (Dl hko2))<|wA rfl<|QA (Qs rfl rfl (by omega))<|QA (Qw (i:=i.i+n') rfl rfl Qf Qp (by omega))<|QR (vs:=[_]) rfl rfl rfl Qp rfl .here (G2 hko2 _) wK<|QE<|Qk<|QC<|QB<|wA rfl<|QA (Qs rfl rfl (by omega)) ?_
   refine wB rfl<|QE ?_
   exact Qo (⟨i.i+1,i2.o.set (i.i+n') i2.c,by omega,hrow⟩:pP a b) (by show a.length - (i.i+1)<a.length - i.i;omega) wN (by rw [hz,Int.zero_add];exact fL _) (fun _ h=>h)
 ·
  refine Qz ?_
  repeat (first | refine Qb ?_ | refine QV (by rfl) ?_)
  refine Qc<|QC<|QG ?_
  have hex:a.length≤i.i:=by have:=wJ hc;omega
  have hol:i.o.length=a.length+b.length:=i.h.1
  have hr:Qx 3 1 (.slice (some ⟨bk,0,none⟩) (n+n') (n+n')) (n+n') (i.o.map Qy) [(bk,.cells (i.o.map Qy).toArray 3 (0,0))]:=by
   have:=Qx.some (T:=3) (sz:=1) (b:=bk) (n:=n+n') (cap:=n+n') (l:=i.o.map Qy) (rest:=[]) (by simp;omega) (by simp;omega) (aq _) (aU (show n+n'≤200000000 by omega) (by decide))
   simpa using this
  obtain ⟨r,hv,hrn,hrc,hfix⟩:=Qx.fix (w0:=w) (F0:=F) (bs1:=[]) (G:=fun F=>JR F ⟨q,n,c⟩ a∧JR F ⟨q',n',c'⟩ b) hr
  have hlz:=Xz i.o
  refine Ra hfix ?_
  rw [hv]
  refine QB<|wA rfl<|QH rfl (fun w F hF h9=>GD (r:=r) (l:=i.o) hF ⟨by rw [hrn];exact h9.2,by rw [hrn];omega,by omega⟩ (by omega)) (fun c71=>wD rfl<|QS ?_)
  exact QP ((⟨r.q,(Q4 i.o).length,r.cap⟩,Q4 i.o):Sr×List Int) rfl (.tmp rfl .nil) rfl (fun F h=>⟨h.2,i.h.2.1.Q4,by show dv B9 (Q4 i.o)=_;rw [XG];exact i.h.stop hex,Xi _,by show(Q4 i.o).length≤_;omega⟩)
structure pZ (a:List Int) (d:Int) where
 k:Nat
 o:List Int
 r:Int
 le:k≤a.length
 len:o.length=a.length
 dg:DG B9 o
 r0:0≤r
 r1:r<d
 h:dv B9 (a.drop k)=d*dv B9 (o.drop k)+r
theorem set_drop {o:List Int} {p:Nat} (h:p<o.length) (v:Int):(o.set p v).drop p=v::o.drop (p+1):=by
 rw [aE (by simpa using h)]
 congr 1
 ·simp
 ·rw [bc (by omega)]
theorem jv {r d x:Int} (r0:0≤r) (r1:r<d) (hd:d<B9) (hx:0≤x∧x<B9):0≤r*B9+x∧0≤(r*B9+x) / d∧(r*B9+x) / d<B9∧0≤(r*B9+x)%d∧(r*B9+x)%d<d:=by
 have h0:0≤r*B9:=bN r0 (by decide)
 refine⟨by omega,bL (by omega) (by omega),eb (by omega) ?_,cb _ (by omega),bP _ (by omega)⟩
 have h1:(r+1)*B9≤d*B9:=av (by omega) (by decide)
 rw [bt,aJ] at h1
 rw [aA B9 d]
 omega
theorem kE {a o:List Int} {d r s:Int} {p:Nat} (hp:p<a.length) (ho:p<o.length) (h:dv B9 (a.drop (p+1))=d*dv B9 (o.drop (p+1))+r) (hs:s=r*B9+Qa a p) :
  dv B9 (a.drop p)=d*dv B9 ((o.set p (s / d)).drop p)+s%d:=by
 rw [set_drop ho,aE hp,← Xx hp]
 simp only [dv]
 rw [h]
 have e:s%d+d*(s / d)=s:=bj s d
 generalize s / d=u at *
 generalize s%d=v at *
 generalize B9=B at *
 grind
theorem EH {w:ar} {F:Gs} {ra:Sr} {a:List Int} {d:Int} (hF:Fits F w) (hA:JR F ra a) (da:DG B9 a) (la:a.length≤100000000) (d0:0<d) (d1:d<B9) :
  QT Tryz.prog 249 [ra.v,.int .i64 d] w F (fun(c:(Sr×List Int)×Int)=>.tuple [.slice c.1.1.q c.1.1.n c.1.1.cap,.int .i64 c.2].toArray) (fun c F=>JR F c.1.1 c.1.2∧DG B9 c.1.2∧NZ c.1.2∧0≤c.2∧c.2<d∧dv B9 a=d*dv B9 c.1.2+c.2∧c.1.2.length≤a.length):=by
 obtain ⟨q,n,c⟩:=ra
 have na:=hA.2.1
 dsimp only at na
 have h9:B9=1000000000:=rfl
 refine QT.intro (G:=fun F=>JR F ⟨q,n,c⟩ a) Tryz.func249 rfl (by rfl) rfl rfl hF (fun F' hF'=>hA.le hF') ?_
 dsimp only [Sr.v]
 refine wE<|wB rfl<|wD rfl<|wF rfl<|QA (Qj rfl Qf)<|PC (n:=n) (bytes:=8) rfl rfl Qf Qp Vv rfl Dp (by omega) (by omega) (fun bk=>?_)
 rw [show X9 [aa .i64 0] n=(bD a.length (0:Int)).map Qy by rw [VL,na];simp [Qy]]
 refine wD rfl<|wE<|wD rfl<|QG<|wF rfl<|QA (Qj rfl Qf)<|QA (XB rfl rfl (by omega))<|wD rfl<|QX ?_
 refine Xb (ι:=pZ a d) (fun i=>[(0,.slice q n c),(1,.int .i64 d),(6,.slice (some ⟨bk,0,none⟩) n n),(7,.int .i64 i.r),(8,.int .i64 ((i.k:Int) - 1))]) (fun i=>[(bk,.cells (i.o.map Qy).toArray 3 (0,0))]) (fun _ F=>JR F ⟨q,n,c⟩ a) (fun i=>i.k)
  ⟨n,bD a.length 0,0,by omega,by simp,DG.replicate JF _,bR _,d0,by rw [bE (by omega),bE (by simp;omega)];simp [dv]⟩ wO wG (fun _ h=>h) (fun i=>?_)
 have hile:=i.le
 have hol:=i.len
 have hr0:=i.r0
 have hr1:=i.r1
 refine QG<|wF rfl<|QA (QU rfl rfl rfl)<|QE<|QC ?_
 refine QQ rfl (fun hc=>?_) (fun hc=>?_)
 ·
  have hk0:0<i.k:=by have:=wI hc;omega
  have hka:i.k - 1<a.length:=by omega
  have hko:i.k - 1<i.o.length:=by omega
  have bx:=da.Qa JF (i.k - 1)
  have bd:=jv hr0 hr1 d1 bx
  rw [h9] at bd
  have hst:=kE (d:=d) (r:=i.r) (s:=i.r*1000000000+Qa a (i.k - 1)) hka hko (by rw [show i.k - 1+1=i.k by omega];exact i.h) rfl
  refine ZA _ (fun w F hF h=>h.1.ptr (by dsimp only;omega)) (fun hq=>?_)
  obtain ⟨qb,qo,hq⟩:=hq
  dsimp only at hq
  subst hq
  refine QO<|QC<|QG<|QX<|wF rfl<|QA (GF rfl rfl (by omega))<|wA rfl<|wA rfl<|QA (Qw (i:=i.k - 1) rfl (congrArg (fun z:Int=>some (aa .i64 z)) (by omega)) Qf Qp (by omega))<|QA (XX (n:=n) (sz:=1) (cs:=a.map Qy) rfl Qp (fun F h=>h.1) (by omega) (JJ hka))<|QA (Qs rfl rfl (by omega))<|wD rfl<|wF rfl<|wA rfl<|wA rfl<|wA rfl<|QA (W4 rfl rfl (by omega) (by omega) (by omega))<|QA (Qw (i:=i.k - 1) rfl (congrArg (fun z:Int=>some (aa .i64 z)) (by omega)) Qf Qp (by omega))<|QR (vs:=[_]) rfl rfl rfl Qp rfl .here (G2 hko _) wK ?_
  refine wC<|QB<|wA rfl<|wA rfl<|QA (Kn rfl rfl (by omega) (by omega))<|wB rfl<|QE<|Qk<|QC<|QB<|wA rfl<|QA (XB rfl rfl (by omega))<|wB rfl<|QE ?_
  exact Qo (⟨i.k - 1,i.o.set (i.k - 1) ((i.r*1000000000+Qa a (i.k - 1)) / d),(i.r*1000000000+Qa a (i.k - 1))%d,by omega,by simpa using hol,i.dg.set _ bd.2.1 bd.2.2.1,bd.2.2.2.1,bd.2.2.2.2,hst⟩:pZ a d) (by show i.k - 1<i.k;omega) ⟨rfl,rfl,rfl,rfl,congrArg (fun z:Int=>some (aa .i64 z)) (by dsimp only;omega),trivial⟩ wG (fun _ h=>h)
 ·
  refine Qz ?_
  repeat (first | refine Qb ?_ | refine QV (by rfl) ?_)
  refine Qc<|QC<|QG ?_
  have hex:i.k=0:=by have:=wJ hc;omega
  have hr:Qx 3 1 (.slice (some ⟨bk,0,none⟩) n n) n (i.o.map Qy) [(bk,.cells (i.o.map Qy).toArray 3 (0,0))]:=by
   have:=Qx.some (T:=3) (sz:=1) (b:=bk) (n:=n) (cap:=n) (l:=i.o.map Qy) (rest:=[]) (by simp;omega) (by simp;omega) (aq _) (aU (show n≤200000000 by omega) (by decide))
   simpa using this
  obtain ⟨r,hv,hrn,hrc,hfix⟩:=Qx.fix (w0:=w) (F0:=F) (bs1:=[]) (G:=fun F=>JR F ⟨q,n,c⟩ a) hr
  have hlz:=Xz i.o
  have hfin:=i.h
  rw [hex,ef,ef] at hfin
  refine Ra hfix ?_
  rw [hv]
  refine QB<|wA rfl<|QH rfl (fun w F hF h9=>GD (r:=r) (l:=i.o) hF ⟨by rw [hrn];exact h9.2,by rw [hrn];omega,by omega⟩ (by omega)) (fun c37=>wA rfl<|wB rfl<|wD rfl<|QS ?_)
  exact Ja (((⟨r.q,(Q4 i.o).length,r.cap⟩,Q4 i.o),i.r):(Sr×List Int)×Int) rfl (.tmp rfl (.tmp rfl .nil)) rfl (fun F h=>⟨h.2,i.dg.Q4,Xi _,hr0,hr1,by show _=d*dv B9 (Q4 i.o)+i.r;rw [XG];exact hfin,by show(Q4 i.o).length≤_;omega⟩)
theorem yz {u v:List Int} {n:Nat} {t r:Int} (h:VY B9 u v n) (t0:0≤t) (e:t*Qa v (n+1)+r=Qa u (n+2)*B9+Qa u (n+1)) (hc:r*B9+Qa u n<t*Qa v n):dv B9 u<t*dv B9 v:=by
 obtain ⟨a1,a2,a3⟩:=Z5 (b:=B9) (by decide) h.hu h.lu
 obtain ⟨b1,b2,b3⟩:=KL (b:=B9) (by decide) h.hv h.lv
 rw [a1,b1]
 refine NY b2 a3 (pow_pos JF n) t0 ?_
 rw [← e]
 generalize B9=B at *
 grind
theorem dj {u v:List Int} {n:Nat} {t:Int} (h:VY B9 u v n) (ht:B9≤t):dv B9 u<t*dv B9 v:=by
 have h0:=Qu (b:=B9) (by decide) h.hv
 have h1:B9*dv B9 v≤t*dv B9 v:=av ht h0
 have:=h.lt
 omega
theorem jl {u v:List Int} {n:Nat} {t:Int} (h:VY B9 u v n) (t0:0≤t) (ht:Qa u (n+2)*B9+Qa u (n+1)<(t+1)*Qa v (n+1)):dv B9 u<(t+1)*dv B9 v:=by
 obtain ⟨a1,a2,a3⟩:=Z5 (b:=B9) (by decide) h.hu h.lu
 obtain ⟨b1,b2,b3⟩:=KL (b:=B9) (by decide) h.hv h.lv
 rw [a1,b1]
 refine NY b2 a3 (pow_pos JF n) (by omega) ?_
 have d1:=h.hu.Qa JF n
 have d2:=h.hv.Qa JF n
 have e1:0≤(t+1)*Qa v n:=bN (by omega) d2.1
 have e2:(Qa u (n+2)*B9+Qa u (n+1)+1)*B9≤(t+1)*Qa v (n+1)*B9:=av (by omega) (by decide)
 generalize B9=B at *
 generalize Qa u (n+2)=u0 at *
 generalize Qa u (n+1)=u1 at *
 generalize Qa u n=u2 at *
 generalize Qa v (n+1)=v1 at *
 generalize Qa v n=v2 at *
 grind
theorem zO {u v:List Int} {n:Nat} {t r:Int} (h:VY B9 u v n) (t0:0≤t) (t1:t<B9) (e:t*Qa v (n+1)+r=Qa u (n+2)*B9+Qa u (n+1)) (hc:t*Qa v n≤r*B9+Qa u n):(t - 1)*dv B9 v≤dv B9 u:=by
 obtain ⟨a1,a2,a3⟩:=Z5 (b:=B9) (by decide) h.hu h.lu
 obtain ⟨b1,b2,b3⟩:=KL (b:=B9) (by decide) h.hv h.lv
 rw [a1,b1]
 have d2:=h.hv.Qa JF n
 have d3:1*B9≤Qa v (n+1)*B9:=av (by have:=h.nz;omega) (by decide)
 refine T2 (pow_pos JF n) b3 a2 t0 ?_ (by omega) b2
 rw [← e]
 generalize B9=B at *
 grind
theorem Zu {o:List Int} {rest:List ai} {k:Nat} (h:k<o.length):(o.map Qy++rest)[0+k*1]?=some (.int .i64 (Qa o k)):=by
 rw [bm,if_pos (by simp;omega)];exact Dl h
theorem qy {l vs l' rest:List ai} {n:Nat} (h:Yt l n vs l'):Yt (l++rest) n vs (l'++rest):=by
 induction h with
 |nil=>exact .nil
 |here h ih=>exact .here ih
 |skip h ih=>exact .skip ih
theorem VR {o:List Int} {rest:List ai} {k:Nat} (h:k<o.length) (x:Int):Yt (o.map Qy++rest) (0+k*1) [.int .i64 x] ((o.set k x).map Qy++rest):=qy (G2 h x)
def F8 (u v:List Int) (t:Int):Prop:=0≤t∧t<B9∧(t - 1)*dv B9 v≤dv B9 u∧dv B9 u<(t+1)*dv B9 v
structure GuI (u v:List Int) (m:Nat) where
 t:Int
 r:Int
 t0:0≤t
 r0:0≤r
 r1:r<B9
 t2:t≤1000000000000000000
 e:t*Qa v (m+1)+r=Qa u (m+2)*B9+Qa u (m+1)
 h:dv B9 u<(t+1)*dv B9 v
theorem Nq {U:List Int} {j m k:Nat} (h:k<m):Qa ((U.drop j).take m) k=Qa U (j+k):=by
 by_cases g:j+k<U.length
 ·rw [Xx (by simp;omega),Xx g];simp
 ·rw [Gf (by simp;omega),Gf (by omega)]
theorem Fp {u v:List Int} {n:Nat} {t r:Int} (h:VY B9 u v n) (t0:0≤t) (e:t*Qa v (n+1)+r=Qa u (n+2)*B9+Qa u (n+1)) (hr:B9≤r) (hu:dv B9 u<(t+1)*dv B9 v):F8 u v t:=by
 have ht:=h.top (by decide)
 have d0:=h.hu.Qa JF n
 have d1:=h.hu.Qa JF (n+1)
 have d2:=h.hv.Qa JF n
 have hn:=h.nz
 have e1:Qa u (n+2)*B9≤Qa v (n+1)*B9:=av ht (by decide)
 have t1:t<B9:=by
  refine Int.not_le.1 fun hc=>?_
  have e2:B9*Qa v (n+1)≤t*Qa v (n+1):=av hc (by omega)
  rw [aA] at e2
  omega
 refine⟨t0,t1,zO h t0 t1 e ?_,hu⟩
 have e3:t*Qa v n≤B9*B9:=bO (by omega) (by omega) d2.1 (by decide)
 have e4:B9*B9≤r*B9:=av hr (by decide)
 omega
theorem RG {u v:List Int} {t:Int} (hu:DG B9 u) (t0:0≤t) (h:dv B9 u<t*dv B9 v):0≤t - 1:=by
 have:=Qu (b:=B9) (by decide) hu
 rcases bX 0 t with g | g
 ·omega
 ·have e:t=0:=by omega
  subst e;rw [fF] at h;omega
theorem ON {rest:List ai} {w0:ar} {F0:Gs} {G:Gs→Prop} {bs:List (Nat×Obj)} {bu nu cu j m:Nat} {rv:Sr} {U v:List Int} (hU:U.length=nu) (hj:j+m+3≤nu) (hn:nu≤1000000000) (hG:∀ F,G F→JR F rv v) (hS:VY B9 ((U.drop j).take (m+3)) v m) :
  XD Tryz.prog 251 [.slice (some ⟨bu,0,none⟩) nu cu,rv.v,.int .i64 (j:Int)] ⟨w0,F0,(bu,.cells (U.map Qy++rest).toArray 3 (0,0))::bs,G⟩ (fun t:Int=>.int .i64 t) (fun t=>⟨w0,F0,(bu,.cells (U.map Qy++rest).toArray 3 (0,0))::bs,fun F=>G F∧F8 ((U.drop j).take (m+3)) v t⟩):=by
 obtain ⟨q,n,c⟩:=rv
 have hlv:=hS.lv
 have h9:B9=1000000000:=rfl
 have u2:Qa ((U.drop j).take (m+3)) (m+2)=Qa U (j+(m+2)):=Nq (by omega)
 have u1:Qa ((U.drop j).take (m+3)) (m+1)=Qa U (j+(m+1)):=Nq (by omega)
 have u0:Qa ((U.drop j).take (m+3)) m=Qa U (j+m):=Nq (by omega)
 have b2:=hS.hu.Qa JF (m+2)
 have b1:=hS.hu.Qa JF (m+1)
 have b0:=hS.hu.Qa JF m
 have c1:=hS.hv.Qa JF (m+1)
 have c0:=hS.hv.Qa JF m
 have nz:=hS.nz
 refine XD.intro Tryz.func251 rfl rfl rfl rfl ?_
 dsimp only [Sr.v]
 refine ZA _ (fun w F hF h=>(hG F h).2.1) (fun hnv=>?_)
 dsimp only at hnv
 obtain rfl:n=m+2:=by omega
 refine ZA _ (fun w F hF h=>(hG F h).1.ptr (by dsimp only;omega)) (fun hq=>?_)
 obtain ⟨qb,qo,hq⟩:=hq
 dsimp only at hq
 subst hq
 refine wE<|wD rfl<|wF rfl<|QA (Qj rfl Qf)<|wD rfl<|QG<|JV wG mixed (by kernel_rfl)<|QK (QD rfl)<|QK (QD rfl)<|QK (QD rfl)<|QK (Qs rfl rfl (by omega))<|QK (Qw (i:=j+(m+2)) rfl (congrArg (fun z:Int=>some (aa .i64 z)) (by omega)) Qf Qp (by omega))<|QK (YZ (v:=.int .i64 (Qa ((U.drop j).take (m+3)) (m+2))) (c:=U.map Qy++rest) (T':=3) rfl Qp .here (by rw [u2];exact Zu (by omega)))<|QK (GF rfl rfl (by omega))<|QK (QD rfl)<|QK (QD rfl)<|QK (QD rfl)<|QK (Qs rfl rfl (by omega)) ?_
 refine QK (XB rfl rfl (by omega))<|QK (Qw (i:=j+(m+1)) rfl (congrArg (fun z:Int=>some (aa .i64 z)) (by omega)) Qf Qp (by omega))<|QK (YZ (v:=.int .i64 (Qa ((U.drop j).take (m+3)) (m+1))) (c:=U.map Qy++rest) (T':=3) rfl Qp .here (by rw [u1];exact Zu (by omega)))<|QK (Qs rfl rfl (by omega))<|QK (QF rfl)<|Q3<|QC<|QG<|JV wG mixed (by kernel_rfl)<|QK (QD rfl)<|QK (QD rfl)<|QK (QD rfl)<|QK (XB rfl rfl (by omega))<|QK (Qw (i:=m+1) rfl (congrArg (fun z:Int=>some (aa .i64 z)) (by omega)) Qf Qp (by omega))<|QK (XX (n:=m+2) (sz:=1) (cs:=v.map Qy) rfl Qp (fun F h=>(hG F h).1) (by omega) (JJ (show m+1<v.length by omega)))<|QK (W4 rfl rfl (by omega) (by omega) (by omega))<|QK (QD rfl)<|QK (QD rfl)<|QK (QD rfl)<|QK (XB rfl rfl (by omega))<|QK (Qw (i:=m+1) rfl (congrArg (fun z:Int=>some (aa .i64 z)) (by omega)) Qf Qp (by omega))<|QK (XX (n:=m+2) (sz:=1) (cs:=v.map Qy) rfl Qp (fun F h=>(hG F h).1) (by omega) (JJ (show m+1<v.length by omega)))<|QK (Kn rfl rfl (by omega) (by omega))<|QK (QF rfl)<|QK (QF rfl) ?_
 refine Q3<|QC<|QG<|QX ?_
 refine Xb (ι:=GuI ((U.drop j).take (m+3)) v m) (fun i=>[(0,.slice (some ⟨bu,0,none⟩) nu cu),(1,.slice (some ⟨qb,qo,none⟩) (m+2) c),(2,.int .i64 (j:Int)),(7,.int .i64 ((m+2:Nat):Int)),(9,.int .i64 i.t),(10,.int .i64 i.r)]) (fun _=>(bu,.cells (U.map Qy++rest).toArray 3 (0,0))::bs) (fun _=>G) (fun i=>i.t.toNat)
  ⟨(Qa ((U.drop j).take (m+3)) (m+2)*1000000000+Qa ((U.drop j).take (m+3)) (m+1)) / Qa v (m+1),(Qa ((U.drop j).take (m+3)) (m+2)*1000000000+Qa ((U.drop j).take (m+3)) (m+1))%Qa v (m+1),bL (by omega) (by omega),cb _ (by omega),Int.lt_trans (bP _ nz) c1.2,Int.le_trans (fi (a:=(Qa ((U.drop j).take (m+3)) (m+2)*1000000000+Qa ((U.drop j).take (m+3)) (m+1))) _ (by omega)) (by omega),by rw [aA,Int.add_comm];exact bj _ _,jl hS (bL (by omega) (by omega)) (Int.lt_ediv_add_one_mul_self _ nz)⟩ wP wG (fun _ h=>h) (fun i=>?_)
 have t0:=i.t0
 have r0:=i.r0
 have r1:=i.r1
 have t2:=i.t2
 refine QG<|QG<|JV wG mixed (by kernel_rfl)<|QK (QD rfl)<|QK (QU rfl rfl rfl)<|QK (QD rfl) ?_
 refine Wu (t:=44) rfl (fun hb44=>?_) (fun hb44=>?_)
 ·
  refine JP rfl rfl rfl<|JP rfl rfl rfl<|JP rfl rfl rfl<|JP rfl rfl rfl<|JP rfl rfl rfl<|JP rfl rfl rfl<|JP rfl rfl rfl<|JP rfl rfl rfl<|JP rfl rfl rfl<|JP rfl rfl rfl<|JP rfl rfl rfl<|JP rfl rfl rfl<|JP rfl rfl rfl<|JP rfl rfl rfl<|JP rfl rfl rfl<|JP rfl rfl rfl<|JP rfl rfl rfl<|JP rfl rfl rfl<|QK (Qi rfl rfl rfl)<|Q3<|QC<|GK rfl ?_
  have hl:dv B9 ((U.drop j).take (m+3))<i.t*dv B9 v:=dj hS (by have:=wI hb44;omega)
  refine QO<|QC<|QX<|wF rfl<|QA (XB rfl rfl (by omega))<|wD rfl<|wF rfl<|wA rfl<|wA rfl<|QA (XB rfl rfl (by omega))<|QA (Qw (i:=m+1) rfl (congrArg (fun z:Int=>some (aa .i64 z)) (by omega)) Qf Qp (by omega))<|QA (XX (n:=m+2) (sz:=1) (cs:=v.map Qy) rfl Qp (fun F h=>(hG F h).1) (by omega) (JJ (show m+1<v.length by omega)))<|QA (Qs rfl rfl (by omega))<|wD rfl<|wE<|wA rfl ?_
  refine QA (QU rfl rfl rfl)<|QE<|QC ?_
  refine QQ rfl (fun hc=>?_) (fun hc=>?_)
  ·
   refine wF rfl<|wD rfl<|QS ?_
   repeat (first | refine JC ?_ | refine Q5 ?_)
   exact Y5 (i.t - 1) rfl (.tmp rfl .nil) rfl (fun w h=>h.imp wG (fun F h=>⟨h,Fp (r:=i.r+Qa v (m+1)) hS (RG hS.hu t0 hl) (by rw [ej,aJ,← i.e];omega) (by have:=wI hc;omega) (by rw [bM];exact hl)⟩))
  ·
   refine QO<|Qk ?_
   exact Qo (⟨i.t - 1,i.r+Qa v (m+1),(RG hS.hu t0 hl),by omega,by have:=wJ hc;omega,by omega,(by rw [ej,aJ,← i.e];omega),(by rw [bM];exact hl)⟩:GuI ((U.drop j).take (m+3)) v m) (by show(i.t - 1).toNat<i.t.toNat;have:=(RG hS.hu t0 hl);omega) wP wG (fun _ h=>h)
 ·
  have tb:i.t<B9:=by have:=wJ hb44;omega
  have p0:0≤i.t*Qa v m:=bN t0 c0.1
  have p1:i.t*Qa v m≤1000000000*1000000000:=bO (by omega) (by omega) c0.1 (by decide)
  refine Ji rfl rfl<|QK (QD rfl)<|Ji rfl rfl<|QK (QD rfl)<|Ji rfl rfl<|QK (QD rfl)<|Ji rfl rfl<|QK (XB rfl rfl (by omega))<|Ji rfl rfl<|QK (Qw (i:=m) rfl (congrArg (fun z:Int=>some (aa .i64 z)) (by omega)) Qf Qp (by omega))<|Ji rfl rfl<|QK (XX (n:=m+2) (sz:=1) (cs:=v.map Qy) rfl Qp (fun F h=>(hG F h).1) (by omega) (JJ (show m<v.length by omega)))<|Ji rfl rfl<|QK (GF rfl rfl (by omega))<|Ji rfl rfl<|QK (QD rfl)<|Ji rfl rfl<|QK (GF rfl rfl (by omega))<|Ji rfl rfl<|QK (QD rfl)<|Ji rfl rfl<|QK (QD rfl)<|Ji rfl rfl<|QK (QD rfl)<|Ji rfl rfl ?_
  refine QK (Qs rfl rfl (by omega))<|Ji rfl rfl<|QK (XB rfl rfl (by omega))<|Ji rfl rfl<|QK (Qw (i:=j+m) rfl (congrArg (fun z:Int=>some (aa .i64 z)) (by omega)) Qf Qp (by omega))<|Ji rfl rfl<|QK (YZ (v:=.int .i64 (Qa ((U.drop j).take (m+3)) (m))) (c:=U.map Qy++rest) (T':=3) rfl Qp .here (by rw [u0];exact Zu (by omega)))<|Ji rfl rfl<|QK (Qs rfl rfl (by omega))<|Ji rfl rfl<|QK (QU rfl rfl rfl)<|QK (Qh rfl rfl rfl)<|Q3<|QC ?_
  refine QQ rfl (fun hc=>?_) (fun hc=>?_)
  ·
   have hl:dv B9 ((U.drop j).take (m+3))<i.t*dv B9 v:=yz hS t0 i.e (by have:=wI hc;rw [h9];omega)
   refine QO<|QC<|QX<|wF rfl<|QA (XB rfl rfl (by omega))<|wD rfl<|wF rfl<|wA rfl<|wA rfl<|QA (XB rfl rfl (by omega))<|QA (Qw (i:=m+1) rfl (congrArg (fun z:Int=>some (aa .i64 z)) (by omega)) Qf Qp (by omega))<|QA (XX (n:=m+2) (sz:=1) (cs:=v.map Qy) rfl Qp (fun F h=>(hG F h).1) (by omega) (JJ (show m+1<v.length by omega)))<|QA (Qs rfl rfl (by omega))<|wD rfl<|wE<|wA rfl ?_
   refine QA (QU rfl rfl rfl)<|QE<|QC ?_
   refine QQ rfl (fun hc=>?_) (fun hc=>?_)
   ·
    refine wF rfl<|wD rfl<|QS ?_
    repeat (first | refine JC ?_ | refine Q5 ?_)
    exact Y5 (i.t - 1) rfl (.tmp rfl .nil) rfl (fun w h=>h.imp wG (fun F h=>⟨h,Fp (r:=i.r+Qa v (m+1)) hS (RG hS.hu t0 hl) (by rw [ej,aJ,← i.e];omega) (by have:=wI hc;omega) (by rw [bM];exact hl)⟩))
   ·
    refine QO<|Qk ?_
    exact Qo (⟨i.t - 1,i.r+Qa v (m+1),(RG hS.hu t0 hl),by omega,by have:=wJ hc;omega,by omega,(by rw [ej,aJ,← i.e];omega),(by rw [bM];exact hl)⟩:GuI ((U.drop j).take (m+3)) v m) (by show(i.t - 1).toNat<i.t.toNat;have:=(RG hS.hu t0 hl);omega) wP wG (fun _ h=>h)
  ·
   refine Qz ?_
   repeat (first | refine Qb ?_ | refine QV (by rfl) ?_)
   refine Qc<|QC<|wF rfl<|wD rfl<|QS ?_
   exact Y5 (i.t) rfl (.tmp rfl .nil) rfl (fun w h=>h.imp wG (fun F h=>⟨h,⟨t0,tb,zO hS t0 tb i.e (by have:=wJ hc;rw [h9];omega),i.h⟩⟩))
end Go.Proofs.YtknegjaeoffnbaaGreatDoor
namespace Ig
structure PY (b:Int) (U v:List Int) (j:Nat) (t:Int) (i:Nat) (U':List Int) (br:Int):Prop where
 len:U'.length=U.length
 dg:DG b U'
 lo:U'.take j=U.take j
 hi:U'.drop (j+i)=U.drop (j+i)
 cy:0≤br
 uh:br≤b
 h:dv b U'+b^j*(t*dv b (v.take i))=dv b U+b^(j+i)*br
theorem PY.start {b:Int} (hb:0≤b) {U v:List Int} (hU:DG b U) (j:Nat) (t:Int):PY b U v j t 0 U 0 :=
 ⟨rfl,hU,rfl,rfl,bR _,hb,by simp⟩
theorem CY {l:List Int} {p k:Nat}:Qa (l.drop p) k=Qa l (p+k):=by
 by_cases g:p+k<l.length
 ·rw [Xx (by simp;omega),Xx g];simp
 ·rw [Gf (by simp;omega),Gf (by omega)]
theorem Zg {l m:List Int} {p q:Nat} (h:l.drop p=m.drop p) (hq:p≤q):Qa l q=Qa m q:=by
 have:=congrArg (fun x=>Qa x (q - p)) h
 simp only [CY] at this
 rw [show p+(q - p)=q by omega] at this;exact this
theorem qc {b t x br:Int} (hb:1<b) (ht:0≤t∧t<b) (hx:0≤x∧x<b) (h:0≤br∧br≤b):0≤t*x∧t*x≤(b - 1)*(b - 1)∧0≤(t*x+br) / b∧(t*x+br) / b<b:=by
 have h0:=bN ht.1 hx.1
 have h1:t*x≤(b - 1)*(b - 1):=bO (by omega) (by omega) hx.1 (by omega)
 refine⟨h0,h1,bL (by omega) (by omega),eb (by omega) ?_⟩
 have e:(b - 1)*(b - 1)=b*b - 2*b+1:=by grind
 omega
theorem PY.step {b:Int} {U v U':List Int} {j i:Nat} {t br x br':Int} (h:PY b U v j t i U' br) (hj:j+i<U.length)
  (hx:0≤x∧x<b) (hbr:br'≤b∧0≤br') (e:x - b*br'=Qa U (j+i) - (t*Qa v i+br)):PY b U v j t (i+1) (U'.set (j+i) x) br':=by
 obtain ⟨h1,h2,h3,h4,h5,h6,h7⟩:=h
 have hd:Qa U' (j+i)=Qa U (j+i):=Zg h4 (aq _)
 refine⟨by simpa using h1,h2.set _ hx.1 hx.2,?_,?_,hbr.2,hbr.1,?_⟩
 ·rw [aN (by omega)];exact h3
 ·rw [bc (by omega),← bS,← aK,h4,aK]
 ·rw [Ge b (by omega),hd,VU,← bS,aV]
  have e':b^(j+i)*(x - b*br')=b^(j+i)*(Qa U (j+i) - (t*Qa v i+br)):=by rw [e]
  rw [eH] at *
  generalize b^i=p at *
  generalize b^j=q at *
  grind
structure Sk (b:Int) (U v:List Int) (j n:Nat) (t:Int) (U':List Int) (top:Int):Prop where
 len:U'.length=U.length
 dg:DG b (U'.set (j+n) 0)
 lo:U'.take j=U.take j
 hi:U'.drop (j+n+1)=U.drop (j+n+1)
 tp:Qa U' (j+n)=top
 h:dv b U'=dv b U - b^j*(t*dv b v)
theorem PY.stop {b:Int} (hb:1<b) {U v U':List Int} {j n:Nat} {t br:Int} (h:PY b U v j t n U' br) (hn:v.length=n) (hj:j+n<U.length):Sk b U v j n t (U'.set (j+n) (Qa U (j+n) - br)) (Qa U (j+n) - br):=by
 obtain ⟨h1,h2,h3,h4,h5,h6,h7⟩:=h
 have hd:Qa U' (j+n)=Qa U (j+n):=Zg h4 (aq _)
 refine⟨by simpa using h1,?_,?_,?_,?_,?_⟩
 ·rw [fv];exact h2.set _ (bR _) (by omega)
 ·rw [aN (by omega)];exact h3
 ·rw [bc (by omega),← aK,h4,aK]
 ·rw [Y1 (by omega),if_pos rfl]
 ·rw [Ge b (by omega),hd]
  rw [ah (by omega)] at h7
  generalize b^(j+n)=p at *
  generalize b^j=q at *
  grind
theorem ZE (b:Int) (l:List Int) (j:Nat):dv b l=dv b (l.take j)+b^j*dv b (l.drop j):=by
 by_cases h:j≤l.length
 ·exact KZ b l j h
 ·rw [ah (by omega),au (by omega)];simp
theorem Sk.part {b:Int} (hb:0<b) {U v U':List Int} {j n:Nat} {t top:Int} (h:Sk b U v j n t U' top):dv b (U'.drop j)=dv b (U.drop j) - t*dv b v:=by
 have e:=h.h
 rw [ZE b U' j,ZE b U j,h.lo] at e
 have hp:=pow_pos hb j
 have e2:b^j*dv b (U'.drop j)=b^j*(dv b (U.drop j) - t*dv b v):=by
  rw [bI];generalize b^j*dv b (U'.drop j)=x at *;generalize b^j*dv b (U.drop j)=y at *;omega
 exact eM (by omega) e2
theorem D6 {l:List Int} {j n:Nat} (h:j+n<l.length):l.drop j=(l.drop j).take n++Qa l (j+n)::l.drop (j+n+1):=by
 have e:(l.drop j).drop n=Qa l (j+n)::l.drop (j+n+1):=by
  rw [aK,XC h]
 rw [← e,bZ]
theorem Iu {b:Int} (hb:1<b) {U:List Int} {k n:Nat} (hU:DG b U) (h:dv b (U.drop k)<b^n):dv b (U.drop (k+n))=0:=by
 have e:=ZE b (U.drop k) n
 rw [aK] at e
 have h1:=Qu (b:=b) (by omega) ((hU.drop k).take n)
 have h2:=Qu (b:=b) (by omega) (hU.drop (k+n))
 have hp:=pow_pos (b:=b) (by omega) n
 rcases bX 0 (dv b (U.drop (k+n))) with g | g
 ·have:b^n*1≤b^n*dv b (U.drop (k+n)):=af (by omega) (by omega)
  rw [eX] at this;omega
 ·omega
theorem Sk.sign {b:Int} (hb:1<b) {U v U':List Int} {j n:Nat} {t top:Int} (h:Sk b U v j n t U' top) (hz:dv b (U.drop (j+n+1))=0) (hj:j+n<U.length) :
  ∃ lo,0≤lo∧lo<b^n∧dv b (U'.drop j)=lo+b^n*top:=by
 have hlen:=h.len
 have hw:=D6 (l:=U') (j:=j) (n:=n) (by omega)
 refine⟨dv b ((U'.drop j).take n),?_,?_,?_⟩
 ·have:DG b ((U'.drop j).take n):=by
   have:=((h.dg.drop j).take n)
   rw [er,if_neg (by omega),bC,aN (aq _)] at this;exact this
  exact Qu (by omega) this
 ·have:DG b ((U'.drop j).take n):=by
   have:=((h.dg.drop j).take n)
   rw [er,if_neg (by omega),bC,aN (aq _)] at this;exact this
  have h2:=YB (by omega:0<b) this
  rw [show((U'.drop j).take n).length=n by simp;omega] at h2;exact h2
 ·have e:=congrArg (dv b) hw
  rw [ZY,Ya,h.hi,hz,h.tp,show((U'.drop j).take n).length=n by simp;omega] at e
  simpa using e
theorem Sk.y8 {b:Int} (hb:1<b) {U v U':List Int} {j n:Nat} {t top:Int} (h:Sk b U v j n t U' top) (hj:j+n<U.length) (h0:0≤top) (ht:top<b)
  (g:dv b (U.drop j)<(t+1)*dv b v):DG b U'∧dv b (U'.drop j)<dv b v∧dv b U'=dv b U - b^j*(t*dv b v):=by
 have hp:=h.part (by omega)
 refine⟨?_,?_,h.h⟩
 ·have e:U'=(U'.set (j+n) 0).set (j+n) top:=by
   rw [fv]
   have:=h.tp
   rw [Xx (by rw [h.len];exact hj)] at this
   rw [← this,List.set_getElem_self]
  rw [e];exact h.dg.set _ h0 ht
 ·rw [hp];rw [bt,aJ] at g;omega
structure DQ (b:Int) (U v:List Int) (j n i:Nat) (U':List Int) (c:Int):Prop where
 len:U'.length=U.length
 dg:DG b (U'.set (j+n) 0)
 lo:U'.take j=U.take j
 hi:U'.drop (j+i)=U.drop (j+i)
 c0:0≤c
 c1:c≤1
 h:dv b U'+b^(j+i)*c=dv b U+b^j*dv b (v.take i)
theorem DQ.start {b:Int} {U v:List Int} {j n:Nat} (hU:DG b (U.set (j+n) 0)):DQ b U v j n 0 U 0 :=
 ⟨rfl,hU,rfl,rfl,bR _,by omega,by simp⟩
theorem DQ.step {b:Int} {U v U':List Int} {j n i:Nat} {c x c':Int} (h:DQ b U v j n i U' c) (hi:i<n) (hj:j+n<U.length)
  (hx:0≤x∧x<b) (hc:0≤c'∧c'≤1) (e:x+b*c'=Qa U (j+i)+Qa v i+c):DQ b U v j n (i+1) (U'.set (j+i) x) c':=by
 obtain ⟨h1,h2,h3,h4,h5,h6,h7⟩:=h
 have hd:Qa U' (j+i)=Qa U (j+i):=Zg h4 (aq _)
 refine⟨by simpa using h1,?_,?_,?_,hc.1,hc.2,?_⟩
 ·rw [List.set_comm _ _ (by omega)];exact h2.set _ hx.1 hx.2
 ·rw [aN (by omega)];exact h3
 ·rw [bc (by omega),← bS,← aK,h4,aK]
 ·rw [Ge b (by omega),hd,VU,← bS,aV]
  have e':b^(j+i)*(x+b*c')=b^(j+i)*(Qa U (j+i)+Qa v i+c):=by rw [e]
  rw [eH] at *
  generalize b^i=p at *
  generalize b^j=q at *
  grind
theorem DQ.Qa {b:Int} (hb:1<b) {U v U':List Int} {j n i:Nat} {c:Int} (h:DQ b U v j n i U' c) (hi:i<n):0≤Qa U' (j+i)∧Qa U' (j+i)<b:=by
 have:=h.dg.Qa (by omega) (j+i)
 by_cases g:j+n<U'.length
 ·rw [Y1 g,if_neg (by omega)] at this;exact this
 ·rw [List.set_eq_of_length_le (by omega)] at this;exact this
theorem DQ.y8 {b:Int} (hb:1<b) {U v U1 U':List Int} {j n:Nat} {t top c:Int} (h:DQ b U1 v j n n U' c) (hs:Sk b U v j n t U1 top) (hU:DG b U) (hv:DG b v) (hn:v.length=n) (hz:dv b (U.drop (j+n+1))=0) (hj:j+n<U.length) (h0:top<0)
  (g:(t - 1)*dv b v≤dv b (U.drop j)):DG b (U'.set (j+n) (top+c))∧dv b ((U'.set (j+n) (top+c)).drop j)<dv b v∧dv b (U'.set (j+n) (top+c))=dv b U - b^j*((t - 1)*dv b v)∧0≤t - 1∧(U'.set (j+n) (top+c)).length=U.length:=by
 obtain ⟨lo,l0,l1,l2⟩:=hs.sign hb hz hj
 have hp:=hs.part (by omega)
 have hlen:=hs.len
 obtain ⟨a1,a2,a3,a4,a5,a6,a7⟩:=h
 have hd:Ig.Qa U' (j+n)=top:=by rw [Zg a4 (aq _),hs.tp]
 rw [ah (by omega)] at a7
 have hv0:=Qu (b:=b) (by omega) hv
 have hv1:=YB (b:=b) (by omega) hv
 rw [hn] at hv1
 have hB:=pow_pos (b:=b) (by omega) n
 have hw:dv b (U'.set (j+n) (top+c))=dv b U - b^j*((t - 1)*dv b v):=by
  rw [Ge b (by omega),hd]
  have e:=hs.h
  generalize b^(j+n)=p at *
  generalize b^j=q at *
  grind
 have hlo:(U'.set (j+n) (top+c)).take j=U.take j:=by
  rw [aN (by omega),a3,hs.lo]
 have hpart:dv b ((U'.set (j+n) (top+c)).drop j)=dv b (U.drop j) - (t - 1)*dv b v:=by
  have e:=hw
  rw [ZE b _ j,ZE b U j,hlo] at e
  have hq:=pow_pos (b:=b) (by omega) j
  have e2:b^j*dv b ((U'.set (j+n) (top+c)).drop j)=b^j*(dv b (U.drop j) - (t - 1)*dv b v):=by
   rw [bI];generalize b^j*dv b ((U'.set (j+n) (top+c)).drop j)=x at *;generalize b^j*dv b (U.drop j)=y at *;omega
  exact eM (by omega) e2
 have hneg:dv b (U1.drop j)<0:=by
  rw [l2]
  have:b^n*top≤b^n*(-1):=af (by omega) (by omega)
  omega
 have hlt:dv b ((U'.set (j+n) (top+c)).drop j)<dv b v:=by
  rw [hpart,ej,aJ];omega
 have hge:0≤dv b ((U'.set (j+n) (top+c)).drop j):=by rw [hpart];omega
 have hsd:dv b ((U'.set (j+n) (top+c)).drop j)=dv b ((U'.drop j).take n)+b^n*(top+c):=by
  have hw2:=congrArg (dv b) (D6 (l:=U'.set (j+n) (top+c)) (j:=j) (n:=n) (by simp;omega))
  have e3:(U'.set (j+n) (top+c)).drop (j+n+1)=U'.drop (j+n+1):=bc (by omega)
  rw [ZY,Ya,Y1 (show j+n<U'.length by omega),if_pos rfl,e3] at hw2
  have:dv b (U'.drop (j+n+1))=0:=by
   rw [← aK,a4,aK,hs.hi];exact hz
  have e2:((U'.set (j+n) (top+c)).drop j).take n=(U'.drop j).take n:=by
   rw [er,if_neg (by omega),bC,aN (aq _)]
  rw [this,e2,show((U'.drop j).take n).length=n by simp;omega] at hw2
  simpa using hw2
 have hdg:DG b ((U'.drop j).take n):=by
  have:=((a2.drop j).take n)
  rw [er,if_neg (by omega),bC,aN (aq _)] at this;exact this
 have d0:=Qu (b:=b) (by omega) hdg
 have d1:=YB (b:=b) (by omega) hdg
 rw [show((U'.drop j).take n).length=n by simp;omega] at d1
 have ht0:top+c=0:=by
  rw [hsd] at hlt hge
  have q1:¬ 1≤top+c:=fun q=>by
   have:b^n*1≤b^n*(top+c):=af q (by omega)
   omega
  have q2:¬ top+c≤-1:=fun q=>by
   have:b^n*(top+c)≤b^n*(-1):=af q (by omega)
   omega
  omega
 refine⟨?_,hlt,hw,?_,by simp;omega⟩
 ·rw [ht0];exact a2
 ·rcases bX (t - 1) 0 with q | q
  ·exfalso
   have u0:=Qu (b:=b) (by omega) (hU.drop j)
   have:t*dv b v≤0:=Int.mul_nonpos_of_nonpos_of_nonneg (by omega) hv0
   omega
  ·exact q
end Ig
namespace Go.Proofs.YtknegjaeoffnbaaGreatDoor
open Go.RowKit Ig
def el {α:Type} [Inhabited α] (l:List α) (i:Nat):α:=l.getD i default
theorem X5 {α:Type} [Inhabited α] {l:List α} {i:Nat} (h:i<l.length):el l i=l[i]:=by simp [el,h]
theorem JK {α:Type} [Inhabited α] {l:List α} {i:Nat} (h:i<l.length):el l i∈l:=by rw [X5 h];exact bf h
theorem Jy {α:Type} [Inhabited α] {f:α→List ai} {k:Nat} (hf:∀ x,(f x).length=k) {l:List α} {i j:Nat} {u:ai} (h:i<l.length) (hj:(f (el l i))[j]?=some u):(l.flatMap f)[i*k+j]?=some u:=by
 have hlt:j<k:=by
  rcases aQ j k with g | g
  ·exact g
  ·rw [aX (by rw [hf];exact g)] at hj;cases hj
 rw [SS hf l i j h hlt,← X5 h];exact hj
theorem Bp {α:Type} [Inhabited α] {f:α→ai} {l:List α} {i:Nat} (h:i<l.length):(l.map f)[i*1]?=some (f (el l i)):=by
 rw [Nat.mul_one,List.getElem?_map,aY h,X5 h];rfl
theorem X7 {α:Type} [Inhabited α] {l:List α} {i:Nat} (h:i<l.length):l.take (i+1)=l.take i++[el l i]:=by
 rw [aC h,X5 h]
theorem MI {α:Type} [Inhabited α] {l:List α} {i:Nat} (h:i<l.length):l.drop i=el l i::l.drop (i+1):=by
 rw [aE h,X5 h]
theorem Xy {l:List Int} {i:Nat} (h:i<l.length):Qa l i=el l i:=by rw [Xx h,X5 h]
def yO (q:Option Addr):Nat:=(q.getD ⟨0,0,none⟩).block
def yN (q:Option Addr):Nat:=(q.getD ⟨0,0,none⟩).off
section
variable [Dr] [df:Df] {P:aS} {Q:Exit→Act→ar→Prop} {N:Nat} {m:Sl} {E E0:Env} {ops:Array Oper} {l:List Oper} {w0:ar} {F0:Gs} {bs:List (Nat×Obj)} {G:Gs→Prop} {ty:aO}
theorem JH {T e:aO} {x y:bz} {q:Option Addr} {n c sz sz':Nat} {g:Bool} {cs:List ai} (i:Nat) (hr:∀ F,G F→Q6 F q n sz' cs) (hx:ev m x=some (.slice q n c)) (hy:ev m y=some (.int .i64 (i:Int))) (hT:BM P T=some e) (hs:YJ P e=some (g,sz)) (hi:i<n) :
  Qt P N m (St ⟨w0,F0,bs,G⟩) (.indexAddr T x y) ty (.pointer (some ⟨yO q,yN q+i*sz,none⟩)):=fun a w _ _ _ _ ha hw=>by
 obtain ⟨F,hF⟩:=id hw
 obtain ⟨b,off,rfl⟩:=(hr F hF.hG).ptr (by omega)
 exact Qw hx hy hT hs hi a w _ _ _ _ ha hw
theorem JQ {T:aO} {x:bz} {q:Option Addr} {n sz k:Nat} {cs:List ai} (j:Nat) {u:ai} (hr:∀ F,G F→Q6 F q n sz cs) (hn:0<n) (hx:ev m x=some (.pointer (some ⟨yO q,yN q+j,none⟩))) (ht:YJ P T=some (false,k)) (hu:cs[j]?=some u) :
  Qt P N m (St ⟨w0,F0,bs,G⟩) (.load T x) ty u:=fun a w _ _ _ _ ha hw=>by
 obtain ⟨F,hF⟩:=id hw
 obtain ⟨b,off,rfl⟩:=(hr F hF.hG).ptr hn
 exact XX hx ht hr hn hu a w _ _ _ _ ha hw
theorem Xd {T:aO} {x:bz} {q:Option Addr} {n sz k:Nat} {cs vs:List ai} (j:Nat) (hr:∀ F,G F→Q6 F q n sz cs) (hn:0<n) (hx:ev m x=some (.pointer (some ⟨yO q,yN q+j,none⟩))) (ht:YJ P T=some (true,k)) (hl:vs.length=k) (hu:∀ i v,vs[i]?=some v→cs[j+i]?=some v) :
  Qt P N m (St ⟨w0,F0,bs,G⟩) (.load T x) ty (.agg vs.toArray):=fun a w _ _ _ _ ha hw=>by
 obtain ⟨F,hF⟩:=id hw
 obtain ⟨b,off,rfl⟩:=(hr F hF.hG).ptr hn
 exact DZ hx ht hr hn hl hu a w _ _ _ _ ha hw
theorem KE.append {m:Sl}:∀ {k l:Sl},KE m k→KE m l→KE m (k++l)
 |[],_,_,h=>h
 |(_,_)::_,_,⟨h1,h2⟩,h=>⟨h1,KE.append h2 h⟩
theorem Jz {ι:Type} {c:Code} (K:Sl) (M:ι→Sl) (B:ι→List (Nat×Obj)) (R:ι→Gs→Prop) (μ:ι→Nat) (i0:ι)
  (hk:KE m K) (hm:KE m (M i0)) (hb:(B i0).Sublist bs) (hg:∀ F,G F→R i0 F)
  (round:∀ i,J P c (Exit.then (IC N w0 F0 (fun i=>K++M i) B (fun i F=>G F∧R i F) μ i) Q) N (K++M i) ⟨w0,F0,B i,fun F=>G F∧R i F⟩):J P (.loop c) Q N m ⟨w0,F0,bs,G⟩ :=
 Xb (fun i=>K++M i) B (fun i F=>G F∧R i F) μ i0 (hk.append hm) hb (fun F h=>⟨h,hg F h⟩) round
theorem Zc {ι:Type} {c:Code} (K:Sl) (M:ι→Sl) (μ:ι→Nat) (i0:ι) (hk:KE m K) (hm:KE m (M i0))
  (round:∀ i,J P c (Exit.then (IC N w0 F0 (fun i=>K++M i) (fun _=>bs) (fun _=>G) μ i) Q) N (K++M i) ⟨w0,F0,bs,G⟩):J P (.loop c) Q N m ⟨w0,F0,bs,G⟩ :=
 Xb (fun i=>K++M i) (fun _=>bs) (fun _=>G) μ i0 (hk.append hm) wG (fun _ h=>h) round
theorem Kz {x y:Code} (K M:Sl) (hk:KE m K) (h1:J P x (Xl (fun a w=>Jx N (K++M) a∧St ⟨w0,F0,bs,G⟩ w)) N m ⟨w0,F0,bs,G⟩) (h2:J P y Q N (K++M) ⟨w0,F0,bs,G⟩):J P (.seq x y) Q N m ⟨w0,F0,bs,G⟩ :=
 zr _ _ _ h1 h2
theorem F6 {ι:Type} {x y:Code} (K:Sl) (M:ι→Sl) (B:ι→List (Nat×Obj)) (R:ι→Gs→Prop) (hk:KE m K) (h1:J P x (Xl (fun a w=>∃ i,Jx N (K++M i) a∧St ⟨w0,F0,B i,fun F=>G F∧R i F⟩ w)) N m ⟨w0,F0,bs,G⟩)
  (h2:∀ i,J P y Q N (K++M i) ⟨w0,F0,B i,fun F=>G F∧R i F⟩):J P (.seq x y) Q N m ⟨w0,F0,bs,G⟩ :=
 Ky (fun i=>K++M i) B (fun i F=>G F∧R i F) h1 h2
end
theorem Sw:(1:Int)<B9:=by decide
theorem SB {b:List Int} {n:Nat} (db:DG B9 b) (zb:NZ b) (hn:b.length=n+1):1≤Qa b n∧1≤B9 / (Qa b n+1)∧B9 / (Qa b n+1)<B9∧B9 / (Qa b n+1)*(Qa b n+1)≤B9:=by
 have hd:=db.Qa JF n
 have h1:1≤Qa b n:=by
  have hlt:n<b.length:=by omega
  have:Qa b n≠0:=by
   intro e
   refine zb ?_
   rw [List.getLast?_eq_getElem?,hn,ey,aY hlt]
   rw [Xx hlt] at e;rw [e]
  omega
 have h9:B9=1000000000:=rfl
 refine⟨h1,?_,?_,Int.ediv_mul_le _ (by omega)⟩
 ·exact(Int.le_ediv_iff_mul_le (by omega)).2 (by omega)
 ·exact eb (by omega) (by rw [bJ];have:B9*1≤B9*Qa b n:=af h1 (by omega);omega)
theorem O3 {b v:List Int} {n:Nat} {f:Int} (db:DG B9 b) (zb:NZ b) (hn:b.length=n+1) (dv':DG B9 v) (zv:NZ v) (h:dv B9 v=dv B9 b*f) (h1:1≤f) (h2:f*(Qa b n+1)≤B9):v.length=n+1:=by
 have hlt:n<b.length:=by omega
 have e1:dv B9 b=dv B9 (b.take n)+B9^n*Qa b n:=by
  have:=VU B9 b n
  rw [ah (by omega)] at this;exact this
 have e2:=YB JF (db.take n)
 rw [show(b.take n).length=n by simp;omega] at e2
 have hb0:B9^n≤dv B9 b:=by
  have:=B3 JF db zb (by intro e;rw [e] at hn;simp at hn)
  rw [hn,ey] at this;exact this
 have hp:=pow_pos JF n
 have hup:dv B9 b<B9^n*(Qa b n+1):=by rw [bJ,eX];omega
 have hv1:dv B9 v<B9^(n+1):=by
  rw [h,aV]
  have:dv B9 b*f<B9^n*(Qa b n+1)*f:=eJ hup (by omega)
  have q:B9^n*(Qa b n+1)*f≤B9^n*B9:=by
   rw [bT,aA (Qa b n+1)]
   exact af h2 (by omega)
  omega
 have hv0:B9^n≤dv B9 v:=by
  rw [h]
  have:dv B9 b*1≤dv B9 b*f:=af h1 (by omega)
  omega
 rcases Nat.lt_trichotomy v.length (n+1) with g | g | g
 ·have h3:=YB JF dv'
  have h4:=ZV (b:=B9) (by decide) (show v.length≤n by omega)
  omega
 ·exact g
 ·have h3:=B3 JF dv' zv (by intro e;rw [e] at g;simp at g)
  have h4:=ZV (b:=B9) (by decide) (show n+1≤v.length - 1 by omega)
  omega
theorem yo {b:Int} (hb:0<b) {U:List Int} {k:Nat} (hU:DG b U):b^k*dv b (U.drop k)≤dv b U:=by
 rw [ZE b U k]
 have:=Qu hb (hU.take k)
 omega
structure DN (a v:List Int) (f:Int) (n:Nat) where
 k:Nat
 U:List Int
 Q:List Int
 le:k+n≤a.length+1
 lu:U.length=a.length+1
 lq:Q.length=a.length+1 - n
 du:DG B9 U
 dq:DG B9 Q
 lt:dv B9 (U.drop k)<dv B9 v
 h:dv B9 a*f=dv B9 v*(B9^k*dv B9 (Q.drop k))+dv B9 U
def DN.start {a b v U:List Int} {f:Int} {n:Nat} (da:DG B9 a) (db:DG B9 b) (zb:NZ b) (hn:b.length=n+1) (hv:dv B9 v=dv B9 b*f) (h1:1≤f) (du:DG B9 U) (lu:U.length=a.length+1) (hU:dv B9 U=dv B9 a*f) (hl:n+1≤a.length+1):DN a v f (n+1) where
 k:=a.length+1 - (n+1)
 U:=U
 Q:=bD (a.length+1 - (n+1)) 0
 le:=by omega
 lu:=lu
 lq:=by simp
 du:=du
 dq:=DG.replicate JF _
 lt:=by
  have hb0:B9^n≤dv B9 b:=by
   have:=B3 JF db zb (by intro e;rw [e] at hn;simp at hn)
   rw [hn,ey] at this;exact this
  have h2:=yo JF (k:=a.length - n) du
  have h3:=YB JF da
  have h4:dv B9 a*f<B9^a.length*f:=eJ h3 (by omega)
  have h5:B9^a.length*f=B9^(a.length - n)*(B9^n*f):=by rw [← bT,← eH];congr 2;omega
  rw [hU] at h2
  have h6:B9^(a.length - n)*dv B9 (U.drop (a.length - n))<B9^(a.length - n)*(B9^n*f):=by omega
  have h7:dv B9 (U.drop (a.length - n))<B9^n*f:=Int.lt_of_mul_lt_mul_left h6 (by have:=pow_pos JF (a.length - n);omega)
  have h8:B9^n*f≤dv B9 b*f:=av hb0 (by omega)
  rw [show a.length+1 - (n+1)=a.length - n by omega,hv]
  omega
 h:=by
  rw [au (by simp),UG,eR,eR,Int.zero_add,hU]
theorem DN.zero {a v:List Int} {f:Int} {n:Nat} (i:DN a v f n) (dv':DG B9 v) (hv:v.length=n):dv B9 (i.U.drop (i.k+n))=0:=by
 have:=YB JF dv'
 rw [hv] at this
 exact Iu Sw i.du (Int.lt_trans i.lt this)
theorem DN.OA {a v:List Int} {f:Int} {m:Nat} (i:DN a v f (m+2)) (dv':DG B9 v) (zv:0<Qa v (m+1)) (hv:v.length=m+2) (hk:0<i.k):VY B9 ((i.U.drop (i.k - 1)).take (m+3)) v m∧dv B9 (i.U.drop (i.k - 1))=dv B9 ((i.U.drop (i.k - 1)).take (m+3)):=by
 have hz:=i.zero dv' hv
 have hle:=i.le
 have hlu:=i.lu
 have e:dv B9 (i.U.drop (i.k - 1))=dv B9 ((i.U.drop (i.k - 1)).take (m+3)):=by
  have:=ZE B9 (i.U.drop (i.k - 1)) (m+3)
  rw [aK,show i.k - 1+(m+3)=i.k+(m+2) by omega,hz] at this
  simpa using this
 refine⟨⟨(i.du.drop _).take _,dv',by simp;omega,hv,zv,?_⟩,e⟩
 rw [← e,XC (by omega),Ya,show i.k - 1+1=i.k by omega]
 have hd:=i.du.Qa JF (i.k - 1)
 have hlt:=i.lt
 have:B9*dv B9 (i.U.drop i.k)≤B9*(dv B9 v - 1):=af (by omega) (by decide)
 rw [bI,eX] at this
 omega
def DN.next {a v:List Int} {f:Int} {n:Nat} (i:DN a v f n) (hk:0<i.k) (hn:0<n) {U1:List Int} {t:Int} (t0:0≤t) (t1:t<B9) (h1:DG B9 U1) (h2:dv B9 (U1.drop (i.k - 1))<dv B9 v) (h3:dv B9 U1=dv B9 i.U - B9^(i.k - 1)*(t*dv B9 v)) (h4:U1.length=i.U.length):DN a v f n where
 k:=i.k - 1
 U:=U1
 Q:=i.Q.set (i.k - 1) t
 le:=by have:=i.le;omega
 lu:=by rw [h4,i.lu]
 lq:=by rw [ao,i.lq]
 du:=h1
 dq:=i.dq.set _ t0 t1
 lt:=h2
 h:=by
  have hle:=i.le
  have hlq:=i.lq
  rw [h3,XC (l:=i.Q.set (i.k - 1) t) (by rw [ao];omega),Ya,Y1 (by omega),if_pos rfl,bc (by omega),show i.k - 1+1=i.k by omega,i.h]
  have e:B9^i.k=B9^(i.k - 1)*B9:=by rw [← aV];congr 1;omega
  rw [e]
  generalize B9^(i.k - 1)=p
  generalize dv B9 (i.Q.drop i.k)=q
  generalize dv B9 i.U=u
  generalize dv B9 v=y
  generalize B9=B
  grind
theorem DN.stop {a b v:List Int} {f:Int} {n:Nat} (i:DN a v f n) (hk:i.k=0) (db:DG B9 b) (da:DG B9 a) (hv:dv B9 v=dv B9 b*f) (h1:1≤f) (hb:0<dv B9 b) (dv':DG B9 v) (lv:v.length=n) :
  dv B9 i.Q=dv B9 a / dv B9 b∧dv B9 (i.U.take n)=f*(dv B9 a%dv B9 b):=by
 have h:=i.h
 have lt:=i.lt
 rw [hk,ef] at lt
 have hz:=i.zero dv' lv
 rw [hk,aM] at hz
 have e0:dv B9 (i.U.take n)=dv B9 i.U:=by
  rw [ZE B9 i.U n,hz];simp
 rw [hk,ef,Int.pow_zero,aJ,hv] at h
 rw [hv] at lt
 have u0:=Qu JF i.du
 rw [e0]
 have e1:dv B9 i.U=f*(dv B9 a - dv B9 b*dv B9 i.Q):=by rw [bI];grind
 have lt2:f*(dv B9 a - dv B9 b*dv B9 i.Q)<f*dv B9 b:=by rw [← e1,aA f (dv B9 b)];exact lt
 have r1:dv B9 a - dv B9 b*dv B9 i.Q<dv B9 b:=Int.lt_of_mul_lt_mul_left lt2 (by omega)
 have r0:0≤dv B9 a - dv B9 b*dv B9 i.Q:=by
  rcases bX (dv B9 a - dv B9 b*dv B9 i.Q) 0 with g | g
  ·have:f*(dv B9 a - dv B9 b*dv B9 i.Q)≤f*(-1):=af (by omega) (by omega)
   omega
  ·exact g
 have q:dv B9 a / dv B9 b=dv B9 i.Q:=Xw hb (by rw [aA];omega) (by rw [bt,aJ,aA];omega)
 refine⟨q.symm,?_⟩
 rw [e1]
 have:=Int.emod_def (dv B9 a) (dv B9 b)
 rw [this,q]
section
variable [Dr] [df:Df] {P:aS} {Q:Exit→Act→ar→Prop} {N:Nat} {m:Sl} {ops:Array Oper} {l:List Oper} {w0:ar} {F0:Gs} {bs:List (Nat×Obj)} {G:Gs→Prop} {ty:aO} {pos:String} {aft:Array Edge}
theorem Gn {d:Nat} {t e:aO} {sz:Nat} {g:Bool} (ht:P.underlying t=some (.slice e)) (hs:YJ P e=some (g,sz)) (k:∀ b,JS P ops Q l N ((d,.slice (some ⟨b,0,none⟩) 0 0)::m) ⟨w0,F0,(b,.cells #[] e (0,0))::bs,G⟩) (hu:Wc e=true:=by rfl) (hd:J5 N (some d)=true:=by rfl) :
  JS P ops Q (⟨some d,.buildSlice t 0 #[],ty,pos,aft,none⟩::l) N m ⟨w0,F0,bs,G⟩:=fun a w ha hw=>wpList_plain rfl fun K hK=>by
 refine upon_value (v:=.slice (some ⟨w.heap.size,0,none⟩) 0 0) (w':=w.alloc (.cells #[] e)) ?_ (hK _ _ (k _ _ _ (ha.put hd _) (hw.alloc _ (Xk hu))))
 have hrun:(e9 t 0 #[]).run P w = .ok (.slice (some ⟨w.heap.size,0,none⟩) 0 0) (w.alloc (.cells #[] e)):=by
  have hf:fJ (fun i=>some (i*sz,sz)) (Array.map (fun x=>(#[]:Array ai)[x%(#[]:Array ai).size]!) (Array.range 0)) []=some #[]:=by simp [fJ]
  simp only [e9,fI,run_underlying ht,eY,Z2 hs,fC,if_neg (show ¬ 0>2^24 by omega),fH,if_true,hf,newRow,run_newObj]
  rfl
 simp [execOp,hrun]
theorem TR {T e e':aO} {sz n:Nat} {x:bz} {v:ai} {cs:List ai} {ob:List (Nat×Obj)} {S:ar→Prop} (hx:ev m x=some v) (hr:Qx e' sz v n cs ob) (hT:BM P T=some e):Qt P N m S (.call ⟨.builtin .len,#[x],#[T]⟩) ty (.int .i64 n):=by
 cases hr with
 |nil=>exact Qj hx hT
 |some=>exact Qj hx hT
theorem Qx.big {T:aO} {sz n:Nat} {v:ai} {cs:List ai} {ob:List (Nat×Obj)} (hr:Qx T sz v n cs ob) (hn:0<n):∃ b cap rest,v = .slice (fm ⟨b,0,bY⟩) n cap∧ob=[(b,.cells (cs++rest).toArray T (0,0))]∧n≤cap:=by
 cases hr with
 |nil=>exact absurd hn (Nat.lt_irrefl 0)
 |some h1 h2 h3 h4=>exact⟨_,_,_,rfl,rfl,h3⟩
theorem Src.cK {sz k b off c:Nat} {news:List ai} (hr:∀ F,G F→Q6 F (some ⟨b,off,none⟩) k sz news) (hk:0<k) (hl:news.length=k*sz):Src ⟨w0,F0,bs,G⟩ sz (.slice (.some ⟨b,off,none⟩) k c) k news :=
 ⟨hl,.inr ⟨_,_,rfl,fun w hw j v hv=>by rw [Kt];exact VA hw hr hk hv⟩⟩
end
theorem JR.own {F:Gs} {b n c:Nat} {l:List Int} {rest:List ai} {T:aO} (h:F b=some ((l.map Qy++rest).toArray,T)) (hl:l.length=n) (hn:n≤c):JR F ⟨some ⟨b,0,none⟩,n,c⟩ l:=by
 refine⟨⟨by simp [hl],fun _=>⟨b,0,_,T,rfl,h,fun j u hu=>?_⟩⟩,hl,hn⟩
 have hj:j<(l.map Qy).length:=by rcases aQ j (l.map Qy).length with g | g;exact g;rw [aX g] at hu;cases hu
 rw [aM,aG,bm,if_pos hj];exact hu
theorem JR.cT {F:Gs} {b n c:Nat} {l:List Int} {T:aO} (h:F b=some ((l.map Qy).toArray,T)) (hl:l.length=n) (hn:n≤c):JR F ⟨some ⟨b,0,none⟩,n,c⟩ l:=JR.own (rest:=[]) (by rw [eG];exact h) hl hn
theorem JR.one {F:Gs} {b:Nat} {x:Int} {T:aO} (h:F b=some (([aa .i64 x]:List ai).toArray,T)):JR F ⟨some ⟨b,0,none⟩,1,1⟩ [x]:=⟨Q6.of h rfl,rfl,aq _⟩
theorem JR.take {F:Gs} {q:Option Addr} {n c k:Nat} {l:List Int} (h:JR F ⟨q,n,c⟩ l) (hk:k≤n):JR F ⟨q,k,c⟩ (l.take k):=by
 have hn:=h.2.1
 have hc:=h.2.2
 dsimp only at hn hc
 exact⟨h.1.take hn hk,by simp;omega,by show k≤c;omega⟩
theorem Gc {l m:List Int} (hl:DG B9 l) (hm:DG B9 m) (zl:NZ l) (h:dv B9 l≤dv B9 m):l.length≤m.length:=by
 rcases aQ m.length l.length with g | g
 ·have:=Xa Sw hm hl zl g;omega
 ·exact g
theorem SZ (x:Int):dv B9 [x]=x:=by simp [dv]
theorem OO {f x r t:Int} (hf:0<f) (h:f*x=f*r+t) (h0:0≤t) (h1:t<f):r=x:=by
 have e:t=f*(x - r):=by rw [bI];omega
 rcases eB (x - r) 0 with g | g | g
 ·have:f*(x - r)≤f*(-1):=af (by omega) (by omega)
  omega
 ·omega
 ·have:f*1≤f*(x - r):=af (by omega) (by omega)
  omega
def zw (a b:List Int) (c:(Sr×List Int)×(Sr×List Int)) (F:Gs):Prop :=
 (JR F c.1.1 c.1.2∧DG B9 c.1.2∧NZ c.1.2∧dv B9 c.1.2=dv B9 a / dv B9 b)∧(JR F c.2.1 c.2.2∧DG B9 c.2.2∧NZ c.2.2∧dv B9 c.2.2=dv B9 a%dv B9 b)
theorem jG {F:Gs} {a b:List Int} (nb:b.length=1) (db:DG B9 b) (c:(Sr×List Int)×Int) {k:Nat}
  (h:JR F c.1.1 c.1.2∧DG B9 c.1.2∧NZ c.1.2∧0≤c.2∧c.2<Qa b 0∧dv B9 a=Qa b 0*dv B9 c.1.2+c.2∧c.1.2.length≤a.length) (h':JR F ⟨some ⟨k,0,none⟩,(Q4 [c.2]).length,1⟩ (Q4 [c.2])) :
  zw a b ((c.1.1,c.1.2),(⟨some ⟨k,0,none⟩,(Q4 [c.2]).length,1⟩,Q4 [c.2])) F:=by
 obtain ⟨h1,h2,h3,h4,h5,h6,_⟩:=h
 have e:dv B9 b=Qa b 0:=by
  obtain ⟨x,rfl⟩:=List.length_eq_one_iff.1 nb
  simp [dv,Qa]
 have b0:=db.Qa JF 0
 refine⟨⟨h1,h2,h3,?_⟩,h',(DG.cons h4 (by omega) (DG.nil _)).Q4,Xi _,?_⟩
 ·show dv B9 c.1.2=_
  rw [e];exact(Xw (by omega) (by rw [aA];omega) (by rw [bt,aJ,aA];omega)).symm
 ·show dv B9 (Q4 [c.2])=_
  rw [XG,SZ,e,Zt (q:=dv B9 c.1.2) (by rw [aA];omega) (by rw [bt,aJ,aA];omega),aA];omega
structure QAJ (a:List Int) (f:Int) where
 U:List Int
 v:ai
 ob:List (Nat×Obj)
 le:U.length≤a.length+1
 du:DG B9 U
 h:dv B9 U=dv B9 a*f
 hr:Qx 3 1 v U.length (U.map Qy) ob
structure QAG (U v:List Int) (j:Nat) (t:Int) where
 i:Nat
 U':List Int
 br:Int
 le:i≤v.length
 h:PY B9 U v j t i U' br
structure QAV (U v:List Int) (j n:Nat) where
 i:Nat
 U':List Int
 c:Int
 le:i≤n
 h:DQ B9 U v j n i U' c
@[reducible] def cF (c:(Sr×List Int)×(Sr×List Int)):ai:=.tuple #[.slice c.1.1.q c.1.1.n c.1.1.cap,.slice c.2.1.q c.2.1.n c.2.1.cap]
set_option maxHeartbeats 4000000 in
theorem Gx {w:ar} {F:Gs} {ra rb:Sr} {a b:List Int} (hF:Fits F w) (hA:JR F ra a) (hB:JR F rb b) (da:DG B9 a) (db:DG B9 b) (za:NZ a) (zb:NZ b) (hb:0<dv B9 b) (la:a.length≤10000000) (lb:b.length≤10000000) :
  QT Tryz.prog 201 [ra.v,rb.v] w F cF (fun c F=>zw a b c F):=by
 obtain ⟨q,n,c⟩:=ra
 obtain ⟨q',n',c'⟩:=rb
 have na:=hA.2.1
 have nb:=hB.2.1
 dsimp only at na nb
 have h9:B9=1000000000:=rfl
 have nb0:0<n':=by
  rcases aW n' with g | g
  ·rw [g] at nb;rw [aR nb] at hb;simp at hb
  ·exact g
 dsimp only [Sr.v]
 refine QT.intro (G:=fun F=>JR F ⟨q,n,c⟩ a∧JR F ⟨q',n',c'⟩ b) Tryz.func201 rfl (by rfl) rfl rfl hF (fun F' hF'=>⟨hA.le hF',hB.le hF'⟩)<|wE<|wB rfl<|wD rfl<|QG<|wF rfl<|wA rfl<|QH rfl (fun w F hF h9=>Gy hF (ra:=⟨q,n,c⟩) (rb:=⟨q',n',c'⟩) h9.1 (h9.2) (da) (db) (za) (zb) (by omega) (by omega)) (fun _=>QA (QU rfl rfl rfl)<|QE<|QC ?_)
 refine QQ rfl (fun hc=>?_) (fun hc=>?_)
 ·
  have hlt:dv B9 a<dv B9 b:=by have:=wI hc;unfold Zd at this;split at this;assumption;split at this<;>omega
  refine wF rfl<|wB rfl<|wD rfl<|QS ?_
  exact Ja (((⟨none,0,0⟩,[]),(⟨q,n,c⟩,a)):(Sr×List Int)×(Sr×List Int)) rfl (.tmp rfl (.tmp rfl .nil)) (rfl) (fun F h9=>⟨⟨⟨Q6.nil F _ _,rfl,aq _⟩,DG.nil _,by simp [NZ],by rw [UG];exact(Int.ediv_eq_zero_of_lt (Qu JF da) hlt).symm⟩,h9.1.1,da,za,(Int.emod_eq_of_lt (Qu JF da) hlt).symm⟩)
 ·
  have hge:dv B9 b≤dv B9 a:=by have:=wJ hc;unfold Zd at this;split at this;exact absurd this (by decide);omega
  refine QO<|QC<|QG<|wF rfl<|QA (Qj rfl Qf)<|QA (QU rfl rfl rfl)<|QE<|QC ?_
  refine QQ rfl (fun hc=>?_) (fun hc=>?_)
  ·
   have hn1:n'=1:=by have:=wI hc;omega
   subst hn1
   obtain ⟨f1,_⟩:=SB (n:=0) db zb nb
   have bx:=db.Qa JF 0
   have d0:=bx.2
   refine wF rfl<|wA rfl<|QA (JH (n:=1) (0) (fun F h9=>(h9.1.2).1) rfl (congrArg (fun z:Int=>some (aa .i64 z)) (by omega)) Qf Qp (by omega))<|QA (JQ (n:=1) ((0)*1) (fun F h9=>(h9.1.2).1) (by omega) rfl Qp (JJ (o:=b) (by omega)))<|QH rfl (fun w F hF h9=>EH hF (ra:=⟨q,n,c⟩) h9.1.1 (da) (by omega) (by omega) (d0)) (fun c37=>wA rfl<|QA (QM rfl rfl)<|QA (QM rfl rfl)<|wB rfl<|wD rfl<|QG<|ZA _ (fun w F hF h9=>h9.2.2) (fun p37=>QB<|wA rfl<|wA rfl<|QW rfl (Q8 Qf) Qp Vv rfl rfl (fun b42=>QH rfl (fun w F hF h9=>GD hF (r:=⟨some ⟨b42,0,none⟩,1,1⟩) (JR.one h9.2) (by simp)) (fun c43=>wB rfl<|wB rfl<|QE<|QC ?_))))
   refine QS ?_
   exact Ja (((c37.1.1,c37.1.2),(⟨some ⟨b42,0,none⟩,(Q4 [c37.2]).length,1⟩,Q4 [c37.2])):(Sr×List Int)×(Sr×List Int)) rfl (.tmp rfl (.tmp rfl .nil)) (rfl) (fun F h9=>jG nb db c37 h9.1.1.2 h9.2)
  ·
   have hn2:n'≠1:=fun e=>wJ hc (by omega)
   obtain ⟨m,rfl⟩:∃ m,n'=m+2:=⟨n' - 2,by omega⟩
   obtain ⟨f1,f2,f3,f4⟩:=SB (n:=m+1) db zb nb
   have bx:=db.Qa JF (m+1)
   rw [h9] at bx f2 f3 f4
   have d1f:DG B9 [1000000000 / (Qa b (m+1)+1)]:=DG.cons (by omega) f3 (DG.nil _)
   refine QO<|QC<|wF rfl<|wA rfl<|QA (Qj rfl Qf)<|QA (XB rfl rfl (by omega))<|QA (JH (n:=(m+2)) (m+1) (fun F h9=>(h9.1.2).1) rfl (congrArg (fun z:Int=>some (aa .i64 z)) (by omega)) Qf Qp (by omega))<|QA (JQ (n:=(m+2)) ((m+1)*1) (fun F h9=>(h9.1.2).1) (by omega) rfl Qp (JJ (o:=b) (by omega)))<|QA (Qs rfl rfl (by omega))<|QA (W4 rfl rfl (by omega) (by omega) (by omega))<|QW rfl (Q8 Qf) Qp Vv rfl rfl (fun b52=>wD rfl<|wF rfl<|wA rfl ?_)
   refine QH rfl (fun w F hF h9=>Gw hF (ra:=⟨q',m+2,c'⟩) (rb:=⟨some ⟨b52,0,none⟩,1,1⟩) h9.1.1.2 (JR.one h9.2) (db) (d1f) (by omega) (by first | omega | (simp;done) | (simp;omega))) (fun c55=>?_);rcases c55 with ⟨v55,l55⟩;dsimp only
   refine JO _ (fun w F hF ⟨⟨⟨⟨hA,hB⟩,_⟩,hs52⟩,⟨h55,h55p⟩⟩=>ek h55.2 h55p) (fun p55=>wD rfl<|QG ?_)
   obtain ⟨⟨n55,c55⟩,d55,e55,z55,m55⟩:=p55
   rw [SZ] at e55
   have l55l:l55.length=m+2:=O3 db zb nb d55 z55 e55 f2 f4
   obtain ⟨qv,nv,cv⟩:=v55
   dsimp only at n55 c55 ⊢
   obtain rfl:nv=m+2:=by omega
   have zv:0<Qa l55 (m+1):=by have:=(SB (n:=m+1) d55 z55 l55l).1;omega
   have hlab:b.length≤a.length:=Gc db da zb hge
   refine QB<|wA rfl<|QA (Qj rfl Qf)<|wD rfl<|wE<|Gn (Q8 Qf) Qp (fun b58=>wA rfl<|wA rfl ?_)
   refine QH rfl (fun w F hF h9=>Gw hF (ra:=⟨q,n,c⟩) (rb:=⟨some ⟨b52,0,none⟩,1,1⟩) h9.1.1.1.1 (JR.one h9.1.2) (da) (d1f) (by omega) (by first | omega | (simp;done) | (simp;omega))) (fun c61=>?_);rcases c61 with ⟨v61,l61⟩;dsimp only
   refine JO _ (fun w F hF ⟨⟨⟨⟨⟨hA,hB⟩,_⟩,hs52⟩,⟨h55,h55p⟩⟩,⟨h61,h61p⟩⟩=>ek h61.2 h61p) (fun p61=>?_)
   obtain ⟨⟨n61,c61⟩,d61,e61,z61,m61⟩:=p61
   rw [SZ] at e61
   have hpos:0<l61.length:=by
    rcases aW l61.length with g | g
    ·rw [aR g,UG] at e61
     have:0<dv B9 a*(1000000000 / (Qa b (m+1)+1)):=Int.mul_pos (by omega) (by omega)
     omega
    ·exact g
   obtain ⟨qa,na',ca⟩:=v61
   dsimp only at n61 c61 ⊢
   refine JO _ (fun w F hF h=>h.2.1.1.ptr (by dsimp only;omega)) (fun hq=>?_)
   obtain ⟨qab,qao,hq⟩:=hq
   dsimp only at hq
   subst hq
   simp only [aB] at m61
   refine Kf (bs1:=[]) (ob:=[(b58,.cells #[] 3 (0,0))]) (n:=0) (k:=na') (sz:=1) (olds:=[]) (news:=l61.map Qy) rfl rfl Qf Qp Vv rfl Dp (Qx.some (l:=[]) (rest:=[]) rfl rfl (aq _) (aF _)) (Src.cK (fun F h=>h.2.1.1) (by omega) (by simp;omega)) (by omega) (by omega) (fun v hv=>by obtain ⟨x,_,rfl⟩:=List.mem_map.1 hv;rfl) (fun v62 ob62 hr62=>wD rfl<|QG<|QX<|Jz (ι:=QAJ a (1000000000 / (Qa b (m+1)+1))) [(0,_),(8,_),(9,_),(10,_)] (fun i=>[(11,i.v)]) (fun i=>i.ob) (fun i F=>True) (fun i=>a.length+1 - i.U.length) (⟨l61,v62,ob62,by omega,d61,e61,by rw [n61];simpa using hr62⟩) wN wK wG (fun _ _=>trivial) (fun i=>?_))
   simp only [ak,aw]
   have hle:=i.le
   refine QG<|wF rfl<|QA (TR rfl i.hr Qf)<|wA rfl<|QA (Qj rfl Qf)<|QA (Qs rfl rfl (by omega))<|QA (QU rfl rfl rfl)<|QE<|QC ?_
   refine QQ rfl (fun hc=>?_) (fun hc=>?_)
   ·
    refine QO<|QC<|QX<|QB<|wA rfl<|QW rfl (Q8 Qf) Qp Vv rfl rfl (fun b70=>?_)
    refine Kf (bs1:=[]) (ob:=i.ob) (k:=1) (sz:=1) (news:=[.int .i64 0]) rfl rfl Qf Qp Vv rfl Dp i.hr (Src.row (off:=0) (fun F h9=>h9.2) (fun j v hv=>by rw [aM];show([.int .i64 0].toArray)[j]?=some v;rw [aG];exact hv) rfl) (by omega) (by omega) (ZX wK) (fun v71 ob71 hr71=>?_)
    refine wB rfl<|QE<|Qk ?_
    exact Qo (⟨i.U++[0],v71,ob71,by have:=wI hc;simp;omega,i.du.append (DG.cons (by decide) (by decide) (DG.nil _)),by rw [XS,i.h];simp,by simpa [Qy] using hr71⟩) (by have:=wI hc;show a.length+1 - (i.U++[0]).length<a.length+1 - i.U.length;rw [aj,aB];omega) wO wG (fun F h=>⟨h.1.1,trivial⟩)
   ·
    refine Qz ?_
    repeat (first | refine Qb ?_ | refine QV (by rfl) ?_)
    refine Qc<|QC<|QG ?_
    have hle0:=i.le
    have hU:i.U.length=a.length+1:=by have:=wJ hc;omega
    obtain ⟨U0,vU,obU,hle0,du0,hU0,hr0⟩:=i
    dsimp only at hU hle0 hU0 ⊢
    rw [hU] at hr0
    obtain ⟨bu,cu,rest,rfl,rfl,hcu⟩:=hr0.big (by omega)
    refine QB<|wA rfl<|QA (Qj rfl Qf)<|wA rfl<|QA (XB rfl rfl (by omega))<|PC (n:=a.length+1 - (m+2)) (bytes:=8) (congrArg (fun z:Int=>some (aa .i64 z)) (by omega)) (congrArg (fun z:Int=>some (aa .i64 z)) (by omega)) Qf Qp Vv rfl Dp (by omega) (by omega) (fun bq=>?_)
    rw [show X9 [aa .i64 0] (a.length+1 - (m+2))=(bD (a.length+1 - (m+2)) (0:Int)).map Qy by rw [VL];simp [Qy]]
    refine X0 (List.Perm.swap _ _ _)<|wD rfl<|QG<|wF rfl<|QA (Qj rfl Qf)<|wA rfl<|QA (XB rfl rfl (by omega))<|QA (XB rfl rfl (by omega))<|wD rfl<|QX<|Jz (ι:=DN a l55 (1000000000 / (Qa b (m+1)+1)) (m+2)) [(8,_),(9,_),(10,_),(11,_),(12,_)] (fun i2=>[(13,.int .i64 ((i2.k:Int) - 1))]) (fun i2=>[(bu,.cells (i2.U.map Qy++rest).toArray 3 (0,0)),(bq,.cells (i2.Q.map Qy).toArray 3 (0,0))]) (fun i2 F=>True) (fun i2=>i2.k) (DN.start da db zb nb e55 f2 du0 hU hU0 (by omega)) wO ⟨(congrArg (fun z:Int=>some (aa .i64 z)) (by simp only [DN.start];omega)),trivial⟩ wG (fun _ _=>trivial) (fun i2=>?_)
    simp only [ak,aw]
    have hle2:=i2.le
    have lu2:=i2.lu
    have lq2:=i2.lq
    refine QG<|wF rfl<|QA (QU rfl rfl rfl)<|QE<|QC ?_
    refine QQ rfl (fun hc=>?_) (fun hc=>?_)
    ·
     have hk0:0<i2.k:=by have:=wI hc;omega
     rw [show((i2.k:Int) - 1)=((i2.k - 1:Nat):Int) by omega]
     obtain ⟨hst,hwe⟩:=i2.OA d55 zv l55l hk0
     have hz0:=i2.zero d55 l55l
     refine QO<|QC<|QG<|QX<|wF rfl<|wA rfl<|wA rfl<|XO (bs1:=_) rfl (bh _) (ON (rest:=rest) (U:=i2.U) (v:=l55) (j:=(i2.k - 1)) (m:=m) (rv:=⟨qv,m+2,cv⟩) lu2 (by omega) (by omega) (fun F h9=>h9.1.1.1.2.1) hst) (fun t89=>JO _ (fun w F hF h=>h.2) (fun g89=>?_))
     obtain ⟨t0,t1,t2,t3⟩:=g89
     rw [← hwe] at t2 t3
     refine wD rfl<|wE<|wD rfl<|QG<|wE<|wD rfl<|QX<|Jz (ι:=QAG i2.U l55 (i2.k - 1) t89) [(8,_),(9,_),(10,_),(11,_),(12,_),(13,_),(14,_)] (fun i3=>[(15,.int .i64 (i3.br)),(16,.int .i64 ((i3.i:Nat):Int))]) (fun i3=>[(bu,.cells (i3.U'.map Qy++rest).toArray 3 (0,0)),(bq,.cells (i2.Q.map Qy).toArray 3 (0,0))]) (fun i3 F=>True) (fun i3=>l55.length - i3.i) (⟨0,i2.U,0,aF _,PY.start (by decide) i2.du _ _⟩) wQ wL wG (fun _ _=>trivial) (fun i3=>?_)
     simp only [ak,aw]
     have hle3:=i3.le
     have lU3:=i3.h.len
     have cy:=i3.h.cy
     have uh:=i3.h.uh
     rw [h9] at uh
     refine QG<|wF rfl<|wA rfl<|QA (QU rfl rfl rfl)<|QE<|QC ?_
     refine QQ rfl (fun hc=>?_) (fun hc=>?_)
     ·
      have hi3:i3.i<m+2:=by have:=wI hc;omega
      have bd:=qc Sw ⟨t0,t1⟩ (d55.Qa JF i3.i) ⟨i3.h.cy,i3.h.uh⟩
      simp only [h9] at bd
      have bu3:=i3.h.dg.Qa JF ((i2.k - 1)+i3.i)
      rw [h9] at bu3
      have hd3:Qa i3.U' ((i2.k - 1)+i3.i)=Qa i2.U ((i2.k - 1)+i3.i):=Zg i3.h.hi (aq _)
      refine QO<|QC<|QG<|QX<|wF rfl<|wA rfl<|wA rfl<|QA (JH (n:=(m+2)) (i3.i) (fun F h9=>(h9.1.1.1.1.1.2.1).1) rfl rfl Qf Qp (by omega))<|QA (JQ (n:=(m+2)) ((i3.i)*1) (fun F h9=>(h9.1.1.1.1.1.2.1).1) (by omega) rfl Qp (JJ (o:=l55) (by omega)))<|QA (GF rfl rfl (by omega))<|wA rfl<|QA (Qs rfl rfl (by omega))<|wD rfl<|wF rfl<|wA rfl<|wA rfl<|QA (Qs rfl rfl (by omega))<|QA (Qw (i:=(i2.k - 1)+i3.i) rfl (congrArg (fun z:Int=>some (aa .i64 z)) (by omega)) Qf Qp (by omega))<|QA (YZ (c:=(i3.U').map Qy++rest) (T':=3) rfl Qp .here (Zu (by first | omega | (simp only [ao];omega)))) ?_
      refine wA rfl<|QA (Kn rfl rfl (by omega) (by omega))<|QA (XB rfl rfl (by omega))<|wD rfl<|wF rfl<|QA (W4 rfl rfl (by omega) (by omega) (by omega))<|wD rfl<|QG<|wF rfl<|QA (QU rfl rfl rfl)<|QE<|QC ?_
      refine QQ rfl (fun hc=>?_) (fun hc=>?_)
      ·
       have hx:=wI hc
       refine wF rfl<|QA (Qs rfl rfl (by omega))<|wD rfl<|QB<|wA rfl<|QA (Qs rfl rfl (by omega))<|wD rfl<|QB<|wA rfl<|wA rfl<|wA rfl<|QA (Qs rfl rfl (by omega))<|wA rfl<|QA (Qw (i:=(i2.k - 1)+i3.i) rfl (congrArg (fun z:Int=>some (aa .i64 z)) (by omega)) Qf Qp (by omega))<|QR (vs:=[_]) rfl rfl rfl Qp rfl .here (VR (by first | omega | (simp only [ao];omega)) (((Qa (i3.U') ((i2.k - 1)+i3.i) - (((t89*Qa l55 (i3.i))+i3.br)%1000000000))+1000000000))) wK<|QE<|Qk<|QC<|QB ?_
       refine wA rfl<|QA (Qs rfl rfl (by omega))<|wB rfl<|QE ?_
       exact Qo (⟨i3.i+1,((i3.U').set ((i2.k - 1)+i3.i) (((Qa (i3.U') ((i2.k - 1)+i3.i) - (((t89*Qa l55 (i3.i))+i3.br)%1000000000))+1000000000))),((((t89*Qa l55 (i3.i))+i3.br) / 1000000000)+1),by omega,i3.h.step (by omega) (by rw [h9];omega) (by rw [h9];omega) (by rw [h9,← hd3];omega)⟩) (by show l55.length - (i3.i+1)<l55.length - i3.i;omega) wS wG (fun F h=>⟨h.1,trivial⟩)
      ·
       have hx:=wJ hc
       refine QO<|QC<|QB<|wA rfl<|wA rfl<|wA rfl<|QA (Qs rfl rfl (by omega))<|wA rfl<|QA (Qw (i:=(i2.k - 1)+i3.i) rfl (congrArg (fun z:Int=>some (aa .i64 z)) (by omega)) Qf Qp (by omega))<|QR (vs:=[_]) rfl rfl rfl Qp rfl .here (VR (by first | omega | (simp only [ao];omega)) ((Qa (i3.U') ((i2.k - 1)+i3.i) - (((t89*Qa l55 (i3.i))+i3.br)%1000000000)))) wK<|QE<|Qk<|QC<|QB<|wA rfl<|QA (Qs rfl rfl (by omega))<|wB rfl<|QE ?_
       exact Qo (⟨i3.i+1,((i3.U').set ((i2.k - 1)+i3.i) ((Qa (i3.U') ((i2.k - 1)+i3.i) - (((t89*Qa l55 (i3.i))+i3.br)%1000000000)))),(((t89*Qa l55 (i3.i))+i3.br) / 1000000000),by omega,i3.h.step (by omega) (by rw [h9];omega) (by rw [h9];omega) (by rw [h9,← hd3];omega)⟩) (by show l55.length - (i3.i+1)<l55.length - i3.i;omega) wS wG (fun F h=>⟨h.1,trivial⟩)
     ·
      have hi3:i3.i=m+2:=by have:=wJ hc;omega
      refine Qz ?_
      repeat (first | refine Qb ?_ | refine QV (by rfl) ?_)
      refine Qc<|QC<|QG ?_
      have hs3:PY B9 i2.U l55 (i2.k - 1) t89 (m+2) i3.U' i3.br:=by have:=i3.h;rw [hi3] at this;exact this
      have hd3:Qa i3.U' ((i2.k - 1)+(m+2))=Qa i2.U ((i2.k - 1)+(m+2)):=Zg hs3.hi (aq _)
      have hS:=hs3.stop Sw l55l (by omega)
      rw [← hd3] at hS
      have bu4:=i2.du.Qa JF ((i2.k - 1)+(m+2))
      rw [h9,← hd3] at bu4
      have htp:=hS.tp
      have hz1:dv B9 (i2.U.drop ((i2.k - 1)+(m+2)+1))=0:=by rw [show(i2.k - 1)+(m+2)+1=i2.k+(m+2) by omega];exact hz0
      refine QB<|wA rfl<|wA rfl<|wA rfl<|QA (Qs rfl rfl (by omega))<|wA rfl<|wA rfl<|wA rfl<|QA (Qs rfl rfl (by omega))<|QA (Qw (i:=(i2.k - 1)+(m+2)) rfl (congrArg (fun z:Int=>some (aa .i64 z)) (by omega)) Qf Qp (by omega))<|QA (YZ (c:=(i3.U').map Qy++rest) (T':=3) rfl Qp .here (Zu (by first | omega | (simp only [ao];omega))))<|wA rfl<|QA (XB rfl rfl (by omega))<|QA (Qw (i:=(i2.k - 1)+(m+2)) rfl (congrArg (fun z:Int=>some (aa .i64 z)) (by omega)) Qf Qp (by omega))<|QR (vs:=[_]) rfl rfl rfl Qp rfl .here (VR (by first | omega | (simp only [ao];omega)) ((Qa (i3.U') ((i2.k - 1)+(m+2)) - i3.br))) wK<|wC<|QG<|wF rfl<|wA rfl<|wA rfl<|QA (Qs rfl rfl (by omega))<|QA (Qw (i:=(i2.k - 1)+(m+2)) rfl (congrArg (fun z:Int=>some (aa .i64 z)) (by omega)) Qf Qp (by omega)) ?_
      refine QA (YZ (c:=(((i3.U').set ((i2.k - 1)+(m+2)) ((Qa (i3.U') ((i2.k - 1)+(m+2)) - i3.br)))).map Qy++rest) (T':=3) rfl Qp .here (Zu (by first | omega | (simp only [ao];omega))))<|QA (QU rfl rfl rfl)<|QE<|QC ?_
      refine QQ rfl (fun hc=>?_) (fun hc=>?_)
      ·
       have hneg:Qa i3.U' ((i2.k - 1)+(m+2)) - i3.br<0:=by have:=wI hc;rw [htp] at this;exact this
       refine wF rfl<|QA (XB rfl rfl (by omega))<|wD rfl<|wE<|wD rfl<|QG<|wE<|wD rfl<|QX<|Jz (ι:=QAV (i3.U'.set ((i2.k - 1)+(m+2)) (Qa i3.U' ((i2.k - 1)+(m+2)) - i3.br)) l55 (i2.k - 1) (m+2)) [(8,_),(9,_),(10,_),(11,_),(12,_),(13,_),(14,_)] (fun i4=>[(19,.int .i64 (i4.c)),(20,.int .i64 ((i4.i:Nat):Int))]) (fun i4=>[(bu,.cells (i4.U'.map Qy++rest).toArray 3 (0,0)),(bq,.cells (i2.Q.map Qy).toArray 3 (0,0))]) (fun i4 F=>True) (fun i4=>m+2 - i4.i) (⟨0,_,0,aF _,DQ.start hS.dg⟩) wQ wL wG (fun _ _=>trivial) (fun i4=>?_)
       simp only [ak,aw]
       have hle4:=i4.le
       have lU4:=i4.h.len
       rw [ao] at lU4
       have c40:=i4.h.c0
       have c41:=i4.h.c1
       refine QG<|wF rfl<|wA rfl<|QA (QU rfl rfl rfl)<|QE<|QC ?_
       refine QQ rfl (fun hc=>?_) (fun hc=>?_)
       ·
        have hi4:i4.i<m+2:=by have:=wI hc;omega
        have bu5:=i4.h.Qa Sw hi4
        have bv5:=d55.Qa JF i4.i
        rw [h9] at bu5 bv5
        have hd4:=Zg i4.h.hi (aq _)
        refine QO<|QC<|QG<|QX<|QG<|JV wG mixed (by kernel_rfl)<|QK (QD rfl)<|QK (QD rfl)<|QK (QD rfl)<|QK (Qs rfl rfl (by omega))<|QK (Qw (i:=(i2.k - 1)+i4.i) rfl (congrArg (fun z:Int=>some (aa .i64 z)) (by omega)) Qf Qp (by omega))<|QK (YZ (c:=(i4.U').map Qy++rest) (T':=3) rfl Qp .here (Zu (by first | omega | (simp only [ao];omega))))<|QK (QD rfl)<|QK (QD rfl)<|QK (JH (n:=(m+2)) (i4.i) (fun F h9=>(h9.1.1.1.1.1.1.2.1).1) rfl rfl Qf Qp (by omega))<|QK (JQ (n:=(m+2)) ((i4.i)*1) (fun F h9=>(h9.1.1.1.1.1.1.2.1).1) (by omega) rfl Qp (JJ (o:=l55) (by omega)))<|QK (Qs rfl rfl (by omega))<|QK (QD rfl)<|QK (Qs rfl rfl (by omega))<|QK (QF rfl)<|Q3<|QC<|wE<|wA rfl ?_
        refine wA rfl<|wA rfl<|QA (Qs rfl rfl (by omega))<|wA rfl<|QA (Kn rfl rfl (by omega) (by omega))<|QA (Qw (i:=(i2.k - 1)+i4.i) rfl (congrArg (fun z:Int=>some (aa .i64 z)) (by omega)) Qf Qp (by omega))<|QR (vs:=[_]) rfl rfl rfl Qp rfl .here (VR (by first | omega | (simp only [ao];omega)) ((((Qa (i4.U') ((i2.k - 1)+i4.i)+Qa l55 (i4.i))+i4.c)%1000000000))) wK<|wC<|QB<|wA rfl<|QA (W4 rfl rfl (by omega) (by omega) (by omega))<|wB rfl<|QE<|Qk<|QC<|QB<|wA rfl<|QA (Qs rfl rfl (by omega))<|wB rfl<|QE ?_
        exact Qo (⟨i4.i+1,((i4.U').set ((i2.k - 1)+i4.i) ((((Qa (i4.U') ((i2.k - 1)+i4.i)+Qa l55 (i4.i))+i4.c)%1000000000))),(((Qa (i4.U') ((i2.k - 1)+i4.i)+Qa l55 (i4.i))+i4.c) / 1000000000),by omega,i4.h.step hi4 (by rw [ao];omega) (by rw [h9];omega) (by omega) (by rw [h9,← hd4];omega)⟩) (by show m+2 - (i4.i+1)<m+2 - i4.i;omega) wS wG (fun F h=>⟨h.1,trivial⟩)
       ·
        have hi4:i4.i=m+2:=by have:=wJ hc;omega
        refine Qz ?_
        repeat (first | refine Qb ?_ | refine QV (by rfl) ?_)
        refine Qc<|QC ?_
        have hA4:DQ B9 (i3.U'.set ((i2.k - 1)+(m+2)) (Qa i3.U' ((i2.k - 1)+(m+2)) - i3.br)) l55 (i2.k - 1) (m+2) (m+2) i4.U' i4.c:=by have:=i4.h;rw [hi4] at this;exact this
        have hd5:Qa i4.U' ((i2.k - 1)+(m+2))=Qa i3.U' ((i2.k - 1)+(m+2)) - i3.br:=by rw [Zg hA4.hi (aq _)];exact htp
        have hS5:Sk B9 i2.U l55 (i2.k - 1) (m+2) t89 (i3.U'.set ((i2.k - 1)+(m+2)) (Qa i3.U' ((i2.k - 1)+(m+2)) - i3.br)) (Qa i4.U' ((i2.k - 1)+(m+2))):=by rw [hd5];exact hS
        obtain ⟨g1,g2,g3,g4,g5⟩:=hA4.y8 Sw hS5 i2.du d55 l55l hz1 (by omega) (by rw [hd5];exact hneg) t2
        have lU4:=i4.h.len
        rw [ao] at lU4
        have b5:Qa i4.U' ((i2.k - 1)+(m+2))=Qa i3.U' ((i2.k - 1)+(m+2)) - i3.br:=hd5
        refine QB<|wA rfl<|wA rfl<|wA rfl<|QA (Qs rfl rfl (by omega))<|wA rfl<|wA rfl<|wA rfl<|QA (Qs rfl rfl (by omega))<|QA (Qw (i:=(i2.k - 1)+(m+2)) rfl (congrArg (fun z:Int=>some (aa .i64 z)) (by omega)) Qf Qp (by omega))<|QA (YZ (c:=(i4.U').map Qy++rest) (T':=3) rfl Qp .here (Zu (by first | omega | (simp only [ao];omega))))<|wA rfl<|QA (Qs rfl rfl (by omega))<|QA (Qw (i:=(i2.k - 1)+(m+2)) rfl (congrArg (fun z:Int=>some (aa .i64 z)) (by omega)) Qf Qp (by omega))<|QR (vs:=[_]) rfl rfl rfl Qp rfl .here (VR (by first | omega | (simp only [ao];omega)) ((Qa (i4.U') ((i2.k - 1)+(m+2))+i4.c))) wK<|wC<|QB<|wA rfl<|wA rfl<|wA rfl<|QA (Qw (i:=(i2.k - 1)) rfl (congrArg (fun z:Int=>some (aa .i64 z)) (by omega)) Qf Qp (by omega))<|QR (vs:=[_]) rfl rfl rfl Qp rfl .u1 (G2 (by first | omega | (simp only [ao];omega)) ((t89 - 1))) wK<|QE<|Qk ?_
        refine QC<|QB<|wA rfl<|QA (XB rfl rfl (by omega))<|wB rfl<|QE ?_
        exact Qo (i2.next hk0 (by omega) (t:=t89 - 1) g4 (by omega) g1 g2 g3 g5) (by show i2.k - 1<i2.k;omega) wP wG (fun F h=>⟨h.1.1.1.1,trivial⟩)
      ·
       have hneg:0≤Qa i3.U' ((i2.k - 1)+(m+2)) - i3.br:=by have:=wJ hc;rw [htp] at this;omega
       obtain ⟨g1,g2,g3⟩:=hS.y8 Sw (by omega) hneg (by rw [h9];omega) t3
       refine QO<|QC<|QB<|wA rfl<|wA rfl<|wA rfl<|QA (Qw (i:=(i2.k - 1)) rfl (congrArg (fun z:Int=>some (aa .i64 z)) (by omega)) Qf Qp (by omega))<|QR (vs:=[_]) rfl rfl rfl Qp rfl .u1 (G2 (by first | omega | (simp only [ao];omega)) (t89)) wK<|QE<|Qk<|QC<|QB<|wA rfl<|QA (XB rfl rfl (by omega))<|wB rfl<|QE ?_
       exact Qo (i2.next hk0 (by omega) (t:=t89) t0 t1 g1 g2 g3 hS.len) (by show i2.k - 1<i2.k;omega) wP wG (fun F h=>⟨h.1.1.1,trivial⟩)
    ·
     have hk0:i2.k=0:=by have:=wJ hc;omega
     refine Qz ?_
     repeat (first | refine Qb ?_ | refine QV (by rfl) ?_)
     refine Qc<|QC<|QG ?_
     obtain ⟨s1,s2⟩:=i2.stop hk0 db da e55 f2 hb d55 l55l
     have lt40:=Xz (i2.U.take (m+2))
     rw [bF] at lt40
     refine N2 (b:=bu) .here<|N2 (b:=bq) .here<|JV wG mixed (by kernel_rfl)<|QK (QD rfl)<|QK (QD rfl)<|QK (OT (m+2) rfl rfl rfl Qf Qp (by omega))<|Qd rfl (fun w F hF h9=>GD hF (r:=⟨some ⟨bu,0,none⟩,m+2,cu⟩) ((JR.own h9.1.2 i2.lu hcu).take (by omega)) (by rw [bF];omega)) (fun c196=>QK (QD rfl)<|QK (JH (n:=1) (0) (fun F h9=>(Q6.of (n:=1) (sz:=1) h9.1.1.1.1.1.1.2 rfl)) rfl (congrArg (fun z:Int=>some (aa .i64 z)) (by omega)) Qf Qp (by omega))<|QK (JQ (n:=1) ((0)*1) (fun F h9=>(Q6.of (n:=1) (sz:=1) h9.1.1.1.1.1.1.2 rfl)) (by omega) rfl Qp rfl)<|Qd rfl (fun w F hF h9=>EH hF (a:=Q4 (i2.U.take (m+2))) (ra:=⟨some ⟨bu,0,none⟩,(Q4 (i2.U.take (m+2))).length,cu⟩) h9.2 ((i2.du.take _).Q4) (by omega) (f2) (f3)) (fun c200=>QK (QD rfl)<|QK (QM rfl rfl)<|QK (QM rfl rfl)<|QK (QF rfl)<|QK (QF rfl)<|Q3<|QC<|wF rfl<|QH rfl (fun w F hF h9=>GD hF (r:=⟨some ⟨bq,0,none⟩,a.length+1 - (m+2),a.length+1 - (m+2)⟩) (JR.cT h9.1.1.2 i2.lq (aq _)) (by omega)) (fun c204=>wA rfl<|wB rfl<|wB rfl ?_)))
     refine wC<|QS ?_
     exact Ja (((⟨some ⟨bq,0,none⟩,(Q4 i2.Q).length,a.length+1 - (m+2)⟩,Q4 i2.Q),(c200.1.1,c200.1.2)):(Sr×List Int)×(Sr×List Int)) rfl (.tmp rfl (.tmp rfl .nil)) (rfl) (fun F h9=>⟨⟨h9.2,i2.dq.Q4,Xi _,by show dv B9 (Q4 i2.Q)=_;rw [XG];exact s1⟩,h9.1.2.1,h9.1.2.2.1,h9.1.2.2.2.1,OO (by omega) (by rw [← s2,← XG];exact h9.1.2.2.2.2.2.2.1) h9.1.2.2.2.2.1 h9.1.2.2.2.2.2.1⟩)
structure Ri where
 neg:Bool
 r:Sr
 l:List Int
@[reducible] def Ri.v (x:Ri):ai:=.agg #[.bool x.neg,.slice x.r.q x.r.n x.r.cap]
def Ww (neg:Bool) (l:List Int):Int:=if neg=true then -dv B9 l else dv B9 l
def Vi (F:Gs) (x:Ri) (z:Int):Prop:=JR F x.r x.l∧DG B9 x.l∧NZ x.l∧z=Ww x.neg x.l∧(x.neg=true→0<dv B9 x.l)
theorem Vi.le {F F':Gs} {x:Ri} {z:Int} (h:Vi F x z) (k:Gs.le F F'):Vi F' x z:=⟨h.1.le k,h.2⟩
abbrev Hz (P:aS) (f:FuncId) (args:List ai) (w:ar) (F:Gs) (z:Int):Prop:=QT P f args w F Ri.v (fun x F=>Vi F x z)
structure WO (neg:Bool) (l:List Int) (z:Int):Prop where
 dg:DG B9 l
 nz:NZ l
 e:z=Ww neg l
 ng:neg=true→0<dv B9 l
theorem Vi.p {F:Gs} {x:Ri} {z:Int} (h:Vi F x z):WO x.neg x.l z:=⟨h.2.1,h.2.2.1,h.2.2.2.1,h.2.2.2.2⟩
theorem WO.v0 {neg:Bool} {l:List Int} {z:Int} (h:WO neg l z):0≤dv B9 l:=Qu JF h.dg
theorem WO.abs {neg:Bool} {l:List Int} {z:Int} (h:WO neg l z):(z.natAbs:Int)=dv B9 l:=by
 have:=h.v0
 rw [h.e,Ww];split<;>omega
theorem cZ {l:List Int} (h:DG B9 l) (z:NZ l):l.length≤sz (dv B9 l):=by
 rcases aW l.length with g | g
 ·omega
 ·have h1:=B3 JF h z (by intro e;rw [e] at g;simp at g)
  have h2:=Hm (dv B9 l)
  have h3:=Qu JF h
  rcases aQ (sz (dv B9 l)) l.length with q | q
  ·exfalso
   have h4:(2:Int)^(l.length - 1)≤B9^(l.length - 1):=by
    have:∀ n:Nat,(2:Int)^n≤B9^n:=by
     intro n
     induction n with
     |zero=>simp
     |succ n ih =>
      rw [aV,aV]
      exact bO ih (by decide) (by decide) (Int.le_of_lt (pow_pos JF n))
    exact this _
   have h5:(2:Int)^sz (dv B9 l)≤2^(l.length - 1):=ZV (by decide) (by omega)
   have h6:((dv B9 l).natAbs:Int)<((2^sz (dv B9 l):Nat):Int):=Int.ofNat_lt.2 h2
   rw [Int.natCast_pow] at h6
   have:((2:Nat):Int)=2:=rfl
   rw [this] at h6
   omega
  ·exact q
theorem WO.len {neg:Bool} {l:List Int} {z:Int} (h:WO neg l z):l.length≤sz z:=by
 have:=cZ h.dg h.nz
 have e:sz (dv B9 l)=sz z:=by
  rw [← h.abs];unfold sz;simp
 omega
theorem WO.neg {neg:Bool} {l:List Int} {z:Int} (h:WO neg l z):neg=decide (z<0):=by
 have h0:=h.v0
 cases neg with
 |true=>have:=h.ng rfl;have e:=h.e;simp only [Ww,if_true] at e;symm;rw [decide_eq_true_eq];omega
 |false=>have e:=h.e;simp only [Ww] at e;symm;rw [decide_eq_false_iff_not];simp at e;omega
theorem WO.zero {neg:Bool} {l:List Int} {z:Int} (h:WO neg l z):l=[]↔z=0:=by
 have:=Y0 Sw h.dg h.nz
 have e:=h.abs
 rw [← this];omega
theorem Ly {l:List Int} (h:DG B9 l):(0<(Q4 l).length)↔0<dv B9 l:=by
 have h1:=Y0 Sw h.Q4 (Xi l)
 rw [XG] at h1
 have h2:=Qu JF h
 rw [← eN] at h1
 omega
theorem YD {w:ar} {F:Gs} {r:Sr} {l:List Int} {neg:Bool} (hF:Fits F w) (hR:JR F r l) (dg:DG B9 l) (hl:l.length≤1000000000):Hz Tryz.prog 233 [.bool neg,r.v] w F (Ww neg l):=by
 obtain ⟨q,n,c⟩:=r
 have hn:=hR.2.1
 dsimp only [Sr.v] at hn ⊢
 have hlz:=Xz l
 have htp:=Ly dg
 have hv0:=Qu JF dg
 refine QT.intro (G:=fun F=>JR F ⟨q,n,c⟩ l) Tryz.func233 rfl (by rfl) rfl rfl hF (fun F' hF'=>hR.le hF')<|wE<|Qg Yw (fun b4=>wC<|wF rfl<|QH rfl (fun w F hF hR=>GD hF (r:=⟨q,n,c⟩) hR (hl)) (fun c6=>wD rfl<|wF rfl<|wA rfl ?_))
 refine Qn (t:=8) rfl (fun hb8=>?_) (fun hb8=>?_)
 ·
  refine QL rfl rfl<|wA rfl<|QL rfl rfl<|QA (Qj rfl Qf)<|QL rfl rfl<|QA (QU rfl rfl rfl)<|QA (Qi rfl rfl rfl)<|wA rfl<|QA (Q7 rfl On Yw (.cons (vs:=[_]) rfl rfl rfl .h1 (.cons (vs:=[_]) rfl rfl rfl (.skip .h1) .nil)))<|QR (vs:=[_,_]) rfl rfl rfl JW rfl .here .h2 wL<|wC<|QS ?_
  exact QP ((⟨decide ((((Q4 l).length:Nat):Int)>0),⟨q,(Q4 l).length,c⟩,Q4 l⟩:Ri)) rfl (.Jd (c:=[_,_]) rfl JW .here .nil) (rfl) (fun F ⟨hR,h6⟩=>⟨h6,dg.Q4,Xi _,by show Ww neg l=Ww (decide ((((Q4 l).length:Nat):Int)>0)) (Q4 l);rw [Ww,Ww,XG];cases neg<;>simp_all<;>omega,fun hh=>by show 0<dv B9 (Q4 l);rw [XG];simp_all⟩)
 ·
  refine QN rfl rfl rfl<|QN rfl rfl rfl<|QN rfl rfl rfl<|QA (Qh rfl rfl rfl)<|wA rfl<|QA (Q7 rfl On Yw (.cons (vs:=[_]) rfl rfl rfl .h1 (.cons (vs:=[_]) rfl rfl rfl (.skip .h1) .nil)))<|QR (vs:=[_,_]) rfl rfl rfl JW rfl .here .h2 wL<|wC<|QS ?_
  exact QP ((⟨false,⟨q,(Q4 l).length,c⟩,Q4 l⟩:Ri)) rfl (.Jd (c:=[_,_]) rfl JW .here .nil) (rfl) (fun F ⟨hR,h6⟩=>⟨h6,dg.Q4,Xi _,by show Ww neg l=Ww false (Q4 l);rw [Ww,Ww,XG];cases neg<;>simp_all<;>omega,fun hh=>by show 0<dv B9 (Q4 l);rw [XG];simp_all⟩)
theorem zc {x y:Int} (h:¬ Zd x y≥0):x≤y:=by
 unfold Zd at h;split at h
 ·omega
 ·split at h<;>omega
theorem Iz {a b:Int} (hb:0<b):(-a) / b=if 0<a%b then -(a / b+1) else -(a / b):=by
 have h1:=bj a b
 have h2:=cb a (fG hb)
 have h3:=bP a hb
 split
 ·refine Xw hb ?_ ?_
  ·rw [eI,bt,aJ,aA (a / b)];omega
  ·rw [bt,aJ,eI,bt,aJ,aA (a / b)];omega
 ·refine Xw hb ?_ ?_
  ·rw [eI,aA (a / b)];omega
  ·rw [bt,aJ,eI,aA (a / b)];omega
theorem xe {w:ar} {F:Gs} {x y:Ri} {zx zy:Int} (hF:Fits F w) (hx:Vi F x zx) (hy:Vi F y zy) (hp:0<zy) (hzx:sz zx≤1000000) (hzy:sz zy≤1000000):Hz Tryz.prog 193 [x.v,y.v] w F (zx / zy):=by
 obtain ⟨xn,⟨xq,xm,xc⟩,xl⟩:=x
 have px:=hx.p
 have lx:=px.len
 have kx:=hx.1.2.1
 have vx:=px.v0
 dsimp only at px lx kx vx
 obtain ⟨yn,⟨yq,ym,yc⟩,yl⟩:=y
 have py:=hy.p
 have ly:=py.len
 have ky:=hy.1.2.1
 have vy:=py.v0
 dsimp only at py ly ky vy
 dsimp only [Ri.v]
 have hyv:dv B9 yl=zy:=by have:=py.abs;omega
 have hd0:0<dv B9 yl:=by omega
 refine QT.intro (G:=fun F=>Vi F ⟨xn,⟨xq,xm,xc⟩,xl⟩ zx∧Vi F ⟨yn,⟨yq,ym,yc⟩,yl⟩ zy) Tryz.func193 rfl (by rfl) rfl rfl hF (fun F' hF'=>⟨hx.le hF',hy.le hF'⟩)<|wE<|Q2 rfl (vs:=[_,_]) rfl (fun b2=>Q2 rfl (vs:=[_,_]) rfl (fun b3=>Qg Yw (fun b4=>wC<|wE<|QA (QI rfl YF Qv)<|QA (Qm rfl Qv .u2 (.skip .h1))<|QA (QI rfl YF Qv)<|QA (Qm rfl Qv .u1 (.skip .h1))<|QH rfl (fun w F hF h9=>Gx hF (a:=xl) (b:=yl) (ra:=⟨xq,xm,xc⟩) (rb:=⟨yq,ym,yc⟩) h9.1.1 (h9.2.1) (px.dg) (py.dg) (px.nz) (py.nz) (hd0) (by omega) (by omega)) (fun c12=>wA rfl<|QA (QM rfl rfl)<|QA (QM rfl rfl)<|wB rfl<|wD rfl<|QG<|QG<|ZA _ (fun w F hF h=>ek h.2.1.2 (ek h.2.2.2 (ek h.2.1.1.2.1 h.2.2.1.2.1))) (fun p12=>?_)))))
 obtain ⟨p12,q12,n12,o12⟩:=p12
 have lq:c12.1.2.length≤xl.length:=Gc p12.1 px.dg p12.2.1 (by rw [p12.2.2];exact fi _ vx)
 have hr0:(0<c12.2.1.n)↔0<dv B9 xl%dv B9 yl:=by
  have h1:=Y0 Sw q12.1 q12.2.1
  have h2:=Qu JF q12.1
  rw [q12.2.2] at h1 h2
  rw [← eN] at h1
  omega
 have hf:=Iz (a:=dv B9 xl) hd0
 refine QB<|QA (QI rfl Ki WR)<|QA (Qm rfl WR .u2 .h1)<|wA rfl ?_
 refine Qn (t:=17) rfl (fun hb17=>?_) (fun hb17=>?_)
 ·
  refine QL rfl rfl<|wA rfl<|QL rfl rfl<|QA (Qj rfl Qf)<|QL rfl rfl<|QA (QU rfl rfl rfl)<|QA (Qi rfl rfl rfl)<|QE<|QC ?_
  refine QQ rfl (fun hc=>?_) (fun hc=>?_)
  ·
   refine QB<|wA rfl<|QW rfl (Q8 Qf) Qp Vv rfl rfl (fun b23=>?_)
   refine QH rfl (fun w F hF h9=>MB hF (a:=c12.1.2) (ra:=c12.1.1) (rb:=⟨some ⟨b23,0,none⟩,1,1⟩) h9.1.2.1.1 (JR.one h9.2) (p12.1) (DG.cons (by decide) (by decide) (DG.nil _)) (by omega) (by first | omega | (simp;done) | (simp;omega))) (fun c24=>?_);rcases c24 with ⟨v24,l24⟩;dsimp only
   refine JO _ (fun w F hF ⟨⟨⟨⟨hx,hy⟩,h12⟩,hs23⟩,⟨h24,h24p⟩⟩=>ek h24.2 h24p) (fun p24=>wD rfl<|wE<|QA (QI rfl Ki WR)<|QA (Qm rfl WR .u2 .h1)<|wA rfl ?_)
   have m24:=p24.2.2.2
   simp only [aB] at m24
   have eqn:zx / zy=Ww xn l24:=by
    have e24:=p24.2.2.1
    rw [SZ,p12.2.2] at e24
    rw [px.e,hb17,← hyv];unfold Ww;simp only [if_true]
    rw [hf,if_pos (by have:=wI hc;omega),e24]
   refine QH rfl (fun w F hF h9=>YD hF (r:=v24) (l:=l24) (neg:=xn) h9.2.1 (p24.2.1) (by omega)) (fun c28=>QR (vs:=[_,_]) rfl rfl rfl JW rfl .here .h2 wL<|wC<|QS ?_)
   exact QP (c28) rfl (.Jd (c:=[_,_]) rfl JW .here .nil) (rfl) (fun F h9=>(by rw [eqn];exact h9.2))
  ·
   refine QO<|QC<|wE<|QA (QI rfl Ki WR)<|QA (Qm rfl WR .u2 .h1)<|wA rfl ?_
   have eqn:zx / zy=Ww xn c12.1.2:=by
    rw [px.e,hb17,← hyv];unfold Ww;simp only [if_true]
    rw [hf,if_neg (by have:=wJ hc;omega),p12.2.2]
   refine QH rfl (fun w F hF h9=>YD hF (r:=c12.1.1) (l:=c12.1.2) (neg:=xn) h9.2.1.1 (p12.1) (by omega)) (fun c28=>QR (vs:=[_,_]) rfl rfl rfl JW rfl .here .h2 wL<|wC<|QS ?_)
   exact QP (c28) rfl (.Jd (c:=[_,_]) rfl JW .here .nil) (rfl) (fun F h9=>(by rw [eqn];exact h9.2))
 ·
  refine QN rfl rfl rfl<|QN rfl rfl rfl<|QN rfl rfl rfl<|QA (Qh rfl rfl rfl)<|wC<|YQ rfl<|QO<|QC<|wE<|QA (QI rfl Ki WR)<|QA (Qm rfl WR .u2 .h1)<|wA rfl ?_
  have eqn:zx / zy=Ww xn c12.1.2:=by
   rw [px.e,hb17,← hyv];unfold Ww;simp only [Bool.false_eq_true,if_false]
   rw [p12.2.2]
  refine QH rfl (fun w F hF h9=>YD hF (r:=c12.1.1) (l:=c12.1.2) (neg:=xn) h9.2.1.1 (p12.1) (by omega)) (fun c28=>QR (vs:=[_,_]) rfl rfl rfl JW rfl .here .h2 wL<|wC<|QS ?_)
  exact QP (c28) rfl (.Jd (c:=[_,_]) rfl JW .here .nil) (rfl) (fun F h9=>(by rw [eqn];exact h9.2))
structure QA1 (A B:Int) where
 ra:Sr
 rb:Sr
 a:List Int
 b:List Int
 da:DG B9 a
 db:DG B9 b
 za:NZ a
 zb:NZ b
 la:a.length≤10000000
 lb:b.length≤10000000
 nb:b.length=rb.n
 h:Int.gcd (dv B9 a) (dv B9 b)=Int.gcd A B
section
variable {P:aS} {N:Nat} {m:Sl} {S:ar→Prop} {ty:aO}
theorem OV {T yT:aO} {x y:bz} {a b:Int} (hx:ev m x=some (.int .i64 a)) (hy:ev m y=some (.int .i64 b)) (h:1<b) (h0 : -9223372036854775808≤a) (h1:a≤9223372036854775807):Qt P N m S (.binOp .quo T x y yT) ty (.int .i64 (a.tdiv b)):=by
 have:=LW (P:=P) (N:=N) (m:=m) (S:=S) (ty:=ty) (T:=T) (yT:=yT) hx hy (by omega)
 have e:=Int.natAbs_tdiv a b
 have e2:a.natAbs.div b.natAbs≤a.natAbs:=Nat.div_le_self _ _
 have e3:a.natAbs.div b.natAbs≤a.natAbs / 2:=Nat.div_le_div_left (by omega) (by decide)
 rw [IntWalk.i64_in _ (by omega)] at this;exact this
end
def Rp (neg:Bool) (m:Nat):Int:=if neg=true then -(m:Int) else(m:Int)
theorem qg (neg:Bool) (m:Nat):(Rp neg m).tmod 1000000000=Rp neg (m%1000000000):=by
 unfold Rp;split
 ·rw [Int.neg_tmod];exact congrArg Neg.neg (Int.ofNat_tmod m 1000000000).symm
 ·exact(Int.ofNat_tmod m 1000000000).symm
theorem FP (neg:Bool) (m:Nat):(Rp neg m).tdiv 1000000000=Rp neg (m / 1000000000):=by
 unfold Rp;split
 ·rw [Int.neg_tdiv];exact congrArg Neg.neg (Int.ofNat_tdiv m 1000000000).symm
 ·exact(Int.ofNat_tdiv m 1000000000).symm
theorem OF (n:Int):n=Rp (decide (n<0)) n.natAbs:=by
 unfold Rp;by_cases h:n<0
 ·simp [h];omega
 ·simp [h];omega
theorem DY (neg:Bool) (m:Nat):Rp neg m=m∨Rp neg m = -(m:Int):=by
 unfold Rp;split
 ·exact .inr rfl
 ·exact .inl rfl
structure WhI (M:Nat) where
 m:Nat
 out:List Int
 v:ai
 ob:List (Nat×Obj)
 le:m≤M
 l3:out.length≤3
 dg:DG B9 out
 h:dv B9 out+B9^out.length*(m:Int)=M
 hr:Qx 3 1 v out.length (out.map Qy) ob
theorem WhI.two {M:Nat} (i:WhI M) (hM:M≤9223372036854775808) (h0:0<i.m):i.out.length≤2:=by
 rcases aQ 2 i.out.length with g | g
 ·exfalso
  have e:i.out.length=3:=by have:=i.l3;omega
  have h:=i.h
  have h1:=Qu JF i.dg
  rw [e] at h
  have h2:B9^3*1≤B9^3*(i.m:Int):=af (by omega) (by decide)
  have h3:B9^3=1000000000000000000000000000:=by decide
  rw [h3] at h2 h
  omega
 ·exact g
theorem FH {l:List Int} {m M:Nat} (h:dv B9 l+B9^l.length*(m:Int)=M):dv B9 (l++[((m%1000000000:Nat):Int)])+B9^(l++[((m%1000000000:Nat):Int)]).length*((m / 1000000000:Nat):Int)=M:=by
 rw [XS,aj,aB,aV,bT,fy,← bJ,← h]
 have e:((m%1000000000:Nat):Int)+B9*((m / 1000000000:Nat):Int)=m:=by
  have h9:B9=1000000000:=rfl
  rw [h9];omega
 rw [e]
theorem Ml {w:ar} {F:Gs} {n:Int} (hF:Fits F w) (hn : -9223372036854775808≤n∧n≤9223372036854775807):Hz Tryz.prog 176 [.int .i64 n] w F n:=by
 refine QT.intro (G:=fun F=>True) Tryz.func176 rfl (by rfl) rfl rfl hF (fun F' hF'=>trivial)<|wE<|Qg Yw (fun b2=>wC<|wE<|wD rfl<|wF rfl<|QA (QU rfl rfl rfl)<|wD rfl<|QG<|QX<|Jz (ι:=WhI n.natAbs) [(2,_),(4,_)] (fun i=>[(0,.int .i64 (Rp (decide (n<0)) i.m)),(3,i.v)]) (fun i=>(b2,.cells [.bool false,.slice none 0 0].toArray 143 (0,0))::i.ob) (fun i F=>True) (fun i=>i.m) (⟨n.natAbs,[],.slice none 0 0,[],aq _,by simp,DG.nil _,by simp,.nil⟩) wL ⟨congrArg (fun z:Int=>some (aa .i64 z)) (OF n),rfl,trivial⟩ wG (fun _ _=>trivial) (fun i=>?_))
 simp only [ak,aw]
 have hle:=i.le
 have hM:n.natAbs≤9223372036854775808:=by omega
 have hcs:=DY (decide (n<0)) i.m
 have hsr : -9223372036854775808≤Rp (decide (n<0)) i.m∧Rp (decide (n<0)) i.m≤9223372036854775807:=by unfold Rp;split<;>rename_i g<;>simp at g<;>omega
 refine QG<|wF rfl<|QA (QU rfl rfl rfl)<|QE<|QC ?_
 refine QQ rfl (fun hc=>?_) (fun hc=>?_)
 ·
  have h9:B9=1000000000:=rfl
  have hm0:0<i.m:=by
   rcases aW i.m with g | g
   ·rw [g] at hc;cases hd:decide (n<0)<;>simp [Rp,hd] at hc
   ·exact g
  have l2:=i.two hM hm0
  refine QO<|QC<|QX<|wF rfl<|QA (xj rfl rfl (by decide)) ?_
  rw [qg]
  refine wD rfl<|QG<|wF rfl<|QA (QU rfl rfl rfl)<|QE<|QC ?_
  refine QQ rfl (fun hc=>?_) (fun hc=>?_)
  ·
   have e1:Rp (decide (n<0)) (i.m%1000000000) = -(((i.m%1000000000):Nat):Int):=by
    have:=wI hc
    rcases DY (decide (n<0)) (i.m%1000000000) with g | g<;>omega
   rw [e1]
   refine QB<|wA rfl<|QA (XB rfl rfl (by omega))<|wD rfl<|wF rfl<|wA rfl<|QW rfl (Q8 Qf) Qp Vv rfl rfl (fun b18=>X0 (bs':=[(b2,.cells [.bool false,.slice none 0 0].toArray 143 (0,0))]++i.ob) (bh _) ?_)
   refine Kf (ob:=i.ob) (k:=1) (sz:=1) (news:=[.int .i64 (0 - -(((i.m%1000000000):Nat):Int))]) rfl rfl Qf Qp Vv rfl Dp i.hr (Src.row (off:=0) (fun F h9=>h9.2) (fun j v hv=>by rw [aM];show([.int .i64 (0 - -(((i.m%1000000000):Nat):Int))].toArray)[j]?=some v;rw [aG];exact hv) rfl) (by omega) (by omega) (ZX wK) (fun v19 ob19 hr19=>?_)
   refine wD rfl<|QB<|wA rfl<|QA (OV rfl rfl (by decide) (by omega) (by omega)) ?_
   rw [FP]
   refine wB rfl<|QE<|Qk ?_
   exact Qo (⟨i.m / 1000000000,i.out++[(((i.m%1000000000):Nat):Int)],v19,ob19,by omega,by rw [aj,aB];omega,i.dg.append (DG.cons (by omega) (by show _<B9;rw [h9];omega) (DG.nil _)),FH i.h,by simpa [Qy] using hr19⟩) (by show i.m / 1000000000<i.m;omega) wN wG (fun F h=>⟨h.1.1,trivial⟩)
  ·
   have e1:Rp (decide (n<0)) (i.m%1000000000)=(((i.m%1000000000):Nat):Int):=by
    have:=wJ hc
    rcases DY (decide (n<0)) (i.m%1000000000) with g | g<;>omega
   rw [e1]
   refine QO<|QC<|wF rfl<|wA rfl<|QW rfl (Q8 Qf) Qp Vv rfl rfl (fun b18=>X0 (bs':=[(b2,.cells [.bool false,.slice none 0 0].toArray 143 (0,0))]++i.ob) (bh _) ?_)
   refine Kf (ob:=i.ob) (k:=1) (sz:=1) (news:=[.int .i64 ((((i.m%1000000000):Nat):Int))]) rfl rfl Qf Qp Vv rfl Dp i.hr (Src.row (off:=0) (fun F h9=>h9.2) (fun j v hv=>by rw [aM];show([.int .i64 ((((i.m%1000000000):Nat):Int))].toArray)[j]?=some v;rw [aG];exact hv) rfl) (by omega) (by omega) (ZX wK) (fun v19 ob19 hr19=>?_)
   refine wD rfl<|QB<|wA rfl<|QA (OV rfl rfl (by decide) (by omega) (by omega)) ?_
   rw [FP]
   refine wB rfl<|QE<|Qk ?_
   exact Qo (⟨i.m / 1000000000,i.out++[(((i.m%1000000000):Nat):Int)],v19,ob19,by omega,by rw [aj,aB];omega,i.dg.append (DG.cons (by omega) (by show _<B9;rw [h9];omega) (DG.nil _)),FH i.h,by simpa [Qy] using hr19⟩) (by show i.m / 1000000000<i.m;omega) wN wG (fun F h=>⟨h.1.1,trivial⟩)
 ·
  have hm0:i.m=0:=by
   rcases hcs with g | g
   ·rw [g] at hc;simp at hc;exact hc
   ·rw [g] at hc;simp at hc;exact hc
  refine Qz ?_
  repeat (first | refine Qb ?_ | refine QV (by rfl) ?_)
  refine Qc<|QC<|QG ?_
  have hfin:=i.h
  rw [hm0] at hfin
  have l3:=i.l3
  obtain ⟨r,hv,hrn,hrc,hfix⟩:=Qx.fix (w0:=w) (F0:=F) (bs1:=[(b2,.cells [.bool false,.slice none 0 0].toArray 143 (0,0))]) (G:=fun F=>True∧True) i.hr
  refine Ra hfix ?_
  rw [hv]
  refine QB<|wA rfl<|wA rfl<|QH rfl (fun w F hF h9=>YD hF (r:=r) (l:=i.out) (neg:=decide (n<0)) ⟨by rw [hrn];exact h9.2,by rw [hrn],by omega⟩ (i.dg) (by omega)) (fun c24=>QR (vs:=[_,_]) rfl rfl rfl JW rfl .here .h2 wL<|wC<|QS ?_)
  have e:n=Ww (decide (n<0)) i.out:=by
   have e2:=OF n
   unfold Ww;unfold Rp at e2
   split at e2<;>rename_i hs<;>simp only [hs]<;>simp<;>omega
  exact QP (c24) rfl (.Jd (c:=[_,_]) rfl JW .here .nil) (rfl) (fun F ⟨⟨⟨hT,_⟩,hX⟩,h24⟩=>(by rw [← e] at h24;exact h24))
theorem RP {n:Nat} (h:0<n):N6 n 1=aL n:=by
 have hne:(aL n).length≠0:=fun e=>KS n (aR e)
 unfold N6 hd Vf
 rw [if_neg (by omega),show 1 - (aL n).length=0 by omega]
 rfl
theorem RQ (n:Nat):N6 n 9=Vf 9 (aL n):=by
 unfold N6 hd
 split
 ·rename_i h;subst h;rw [Zq];decide
 ·rfl
theorem D3 {n:Nat} (h:n<1000000000):(N6 n 9).length=9:=by
 rw [RQ,Ta]
 have:=Zj (u:=n) (k:=9) (by omega) (by decide)
 rw [bw];exact this
structure xB (l:List Int) where
 k:Nat
 s:List UInt8
 le:k<l.length
 ps:0<dv B9 (l.drop k)
 sl:s.length≤20+9*(l.length - k)
 h:s=aL (dv B9 (l.drop k)).toNat
theorem Hy {l:List Int} (hd:DG B9 l) (hz:NZ l) (h0:0<l.length):dv B9 (l.drop (l.length - 1))=Qa l (l.length - 1)∧0<Qa l (l.length - 1):=by
 have e:=XC (l:=l) (k:=l.length - 1) (by omega)
 rw [au (i:=l.length - 1+1) (by omega)] at e
 refine⟨by rw [e];simp [dv],?_⟩
 obtain ⟨h1,_⟩:=SB (n:=l.length - 1) hd hz (by omega)
 omega
def xB.start {l:List Int} (hd:DG B9 l) (hz:NZ l) (h0:0<l.length):xB l:=⟨l.length - 1,N6 (Qa l (l.length - 1)).toNat 1,by omega,by rw [(Hy hd hz h0).1];exact(Hy hd hz h0).2,by
  have b:=hd.Qa JF (l.length - 1)
  have h9:B9=1000000000:=rfl
  rw [RP (by have:=(Hy hd hz h0).2;omega),bw]
  have:=Zj (u:=(Qa l (l.length - 1)).toNat) (k:=9) (by rw [h9] at b;omega) (by decide)
  omega,by
  rw [RP (by have:=(Hy hd hz h0).2;omega),(Hy hd hz h0).1]⟩
theorem xB.add {l:List Int} (i:xB l) (hd:DG B9 l) (hk:0<i.k):dv B9 (l.drop (i.k - 1))=Qa l (i.k - 1)+B9*dv B9 (l.drop i.k):=by
 have hle:=i.le
 rw [XC (by omega),Ya,show i.k - 1+1=i.k by omega]
def xB.next {l:List Int} (i:xB l) (hd:DG B9 l) (hk:0<i.k):xB l:=⟨i.k - 1,i.s++N6 (Qa l (i.k - 1)).toNat 9,by have:=i.le;omega,by
  rw [i.add hd hk]
  have b:=hd.Qa JF (i.k - 1)
  have p:=i.ps
  have:B9*1≤B9*dv B9 (l.drop i.k):=af (by omega) (by decide)
  have h9:B9=1000000000:=rfl
  omega,by
  have b:=hd.Qa JF (i.k - 1)
  have h9:B9=1000000000:=rfl
  rw [h9] at b
  have hle:=i.le
  have hsl:=i.sl
  rw [aj,D3 (by omega)]
  omega,by
  have b:=hd.Qa JF (i.k - 1)
  have h9:B9=1000000000:=rfl
  rw [h9] at b
  have p:=i.ps
  have e:=Kr (q:=(dv B9 (l.drop i.k)).toNat) (by omega) 9 (Qa l (i.k - 1)).toNat (by decide) (by omega)
  rw [RQ,i.h,← e,i.add hd hk]
  congr 1
  generalize dv B9 (l.drop i.k)=D at *
  rw [h9]
  omega⟩
structure PaI (s:List UInt8) where
 s':List UInt8
 out:List Int
 v:ai
 ob:List (Nat×Obj)
 dg:DG B9 out
 al:XK s'=true
 ll:s'.length+9*out.length≤s.length
 h:(JA s':Int)*B9^out.length+dv B9 out=JA s
 hr:Qx 3 1 v out.length (out.map Qy) ob
theorem Tg:((10^9:Nat):Int)=B9:=by decide
theorem jC {s:List UInt8} {out:List Int} {z:Int} (h:(JA s:Int)*B9^out.length+dv B9 out=z) (hl:9≤s.length):(JA (s.take (s.length - 9)):Int)*B9^(out++[(JA (s.drop (s.length - 9)):Int)]).length+dv B9 (out++[(JA (s.drop (s.length - 9)):Int)])=z:=by
 have e:=YE (s.take (s.length - 9)) (s.drop (s.length - 9))
 rw [bZ,eD,show s.length - (s.length - 9)=9 by omega] at e
 rw [XS,aj,aB,aV,← h,e,Int.natCast_add,Int.natCast_mul,Tg]
 generalize B9^out.length=p
 generalize ((JA (s.take (s.length - 9)):Nat):Int)=a
 generalize ((JA (s.drop (s.length - 9)):Nat):Int)=b
 generalize B9=B
 grind
theorem NG {s:List UInt8} (h:aD s [45]=true):1≤s.length:=by
 rcases aW s.length with g | g
 ·rw [aR g] at h;simp [aD] at h
 ·omega
theorem DM {P:aS} {Q:Exit→Act→ar→Prop} {ops:Array Oper} {l:List Oper} {N:Nat} {m:Sl} {E E':Env} (h:∀ w,St E w→St E' w) (k:JS P ops Q l N m E'):JS P ops Q l N m E:=fun a w ha hw=>k a w ha (h w hw)
theorem ye {s t:List UInt8} {out:List Int} (h:(JA t:Int)*B9^out.length+dv B9 out=JA (ab s [45])):Ww (aD s [45]) (out++[(JA t:Int)])=YA s:=by
 have e:dv B9 (out++[(JA t:Int)])=JA (ab s [45]):=by
  rw [XS,← h,aA];omega
 unfold Ww YA
 rw [e]
 unfold ab
 cases aD s [45]<;>simp
theorem Pr {s:List UInt8} (h:XK s=true) (hl:s.length≤9):(JA s:Int)<B9:=by
 have h1:=Vn h
 have h2:10^s.length≤10^9:=bn (by decide) hl
 have h3:=Tg
 omega
theorem Hq {w:ar} {F:Gs} {s:List UInt8} (hF:Fits F w) (hs:XK (ab s [45])=true) (hl:s.length≤1000000):Hz Tryz.prog 167 [tx s] w F (YA s):=by
 refine QT.intro (G:=fun F=>True) Tryz.func167 rfl (by rfl) rfl rfl hF (fun F' hF'=>trivial)<|wE<|Qg Yw (fun b2=>QE<|QC ?_)
 refine Kz [(0,_),(2,_)] [(3,.bool (aD s [45]))] wL ?_ ?_
 ·
  refine QB<|wA rfl<|QA (XF rfl Xp)<|QA (QU rfl rfl rfl)<|wA rfl ?_
  refine Qn (t:=8) rfl (fun hb8=>?_) (fun hb8=>?_)
  ·
   refine QL rfl rfl<|wA rfl<|QL rfl rfl<|QA (WA (i:=0) rfl rfl Xp (by have:=wI hb8;omega))<|QL rfl rfl<|QA (QU rfl rfl rfl)<|QA (Qi rfl rfl rfl)<|wB rfl<|QE ?_
   exact ZI ⟨rfl,rfl,(congrArg (fun b=>some (ag b)) (by have h0:0<s.length:=(by have:=wI hb8;omega);rw [GY h0];exact E2 rfl)),trivial⟩ wG (fun _ h=>h)
  ·
   refine QN rfl rfl rfl<|QN rfl rfl rfl<|QN rfl rfl rfl<|QA (Qh rfl rfl rfl)<|wB rfl<|QE ?_
   exact ZI ⟨rfl,rfl,(congrArg (fun b=>some (ag b)) (by have h0:s.length=0:=(by have:=wJ hb8;omega);rw [aR h0];rfl)),trivial⟩ wG (fun _ h=>h)
 ·
  simp only [ak,aw]
  refine Kz [(2,_),(3,_)] [(0,tx (ab s [45]))] wL ?_ ?_
  ·
   refine wF rfl<|QE<|QC ?_
   refine QQ rfl (fun hc=>?_) (fun hc=>?_)
   ·
    refine QB<|wA rfl<|QA (K4 (1) rfl rfl Xp rfl (NG hc))<|wB rfl<|QE ?_
    exact ZI ⟨rfl,rfl,(congrArg (fun l=>some (tx l)) (by unfold ab;rw [if_pos hc];rfl)),trivial⟩ wG (fun _ h=>h)
   ·
    refine QO ?_
    exact ZI ⟨rfl,rfl,(congrArg (fun l=>some (tx l)) (by unfold ab;rw [hc];rfl)),trivial⟩ wG (fun _ h=>h)
  ·
   simp only [ak,aw]
   have hln:(ab s [45]).length≤s.length:=D5 _ _
   refine wE<|wD rfl<|QG<|QX<|Jz (ι:=PaI (ab s [45])) [(2,_),(3,_)] (fun i=>[(0,tx i.s'),(4,i.v)]) (fun i=>(b2,.cells [.bool false,.slice none 0 0].toArray 143 (0,0))::i.ob) (fun i F=>True) (fun i=>i.s'.length) (⟨ab s [45],[],.slice none 0 0,[],DG.nil _,hs,by simp,by simp,.nil⟩) wL wL wG (fun _ _=>trivial) (fun i=>?_)
   simp only [ak,aw]
   have hll:=i.ll
   refine QG<|wF rfl<|QA (XF rfl Xp)<|QA (QU rfl rfl rfl)<|QE<|QC ?_
   refine QQ rfl (fun hc=>?_) (fun hc=>?_)
   ·
    have h9:9<i.s'.length:=by have:=wI hc;omega
    refine QO<|QC<|QX<|wF rfl<|wA rfl<|wA rfl<|QA (XF rfl Xp)<|QA (XB rfl rfl (by omega))<|QA (K4 (i.s'.length - 9) rfl rfl Xp (congrArg (fun z:Int=>some (aa .i64 z)) (by omega)) (by omega))<|QH rfl (fun w F hF h9=>M7 hF (Dq i.al _) (by rw [eD];omega)) (fun _=>QW rfl (Q8 Qf) Qp Vv rfl rfl (fun b26=>X0 (bs':=[(b2,.cells [.bool false,.slice none 0 0].toArray 143 (0,0))]++i.ob) (bh _) ?_))
    refine Kf (ob:=i.ob) (k:=1) (sz:=1) (news:=[.int .i64 ((JA (i.s'.drop (i.s'.length - 9)):Int))]) rfl rfl Qf Qp Vv rfl Dp i.hr (Src.row (off:=0) (fun F h9=>h9.2) (fun j v hv=>by rw [aM];show([.int .i64 ((JA (i.s'.drop (i.s'.length - 9)):Int))].toArray)[j]?=some v;rw [aG];exact hv) rfl) (by omega) (by omega) (ZX wK) (fun v27 ob27 hr27=>?_)
    refine wD rfl<|QB<|wA rfl<|wA rfl<|QA (XF rfl Xp)<|QA (XB rfl rfl (by omega))<|QA (Hx (i.s'.length - 9) rfl rfl Xp (congrArg (fun z:Int=>some (aa .i64 z)) (by omega)) (by omega))<|wB rfl<|QE<|Qk ?_
    exact Qo (⟨i.s'.take (i.s'.length - 9),i.out++[(JA (i.s'.drop (i.s'.length - 9)):Int)],v27,ob27,i.dg.append (DG.cons (by omega) (Pr (Dq i.al _) (by rw [eD];omega)) (DG.nil _)),HM i.al _,by rw [bF,aj,aB];omega,jC i.h (by omega),by simpa [Qy] using hr27⟩) (by show(i.s'.take (i.s'.length - 9)).length<i.s'.length;rw [bF];omega) wN wG (fun F h=>⟨h.1.1.1,trivial⟩)
   ·
    have h9:i.s'.length≤9:=by have:=wJ hc;omega
    refine Qz ?_
    repeat (first | refine Qb ?_ | refine QV (by rfl) ?_)
    refine Qc<|QC<|wF rfl<|wA rfl<|wA rfl<|QH rfl (fun w F hF h9=>M7 hF (i.al) (by omega)) (fun _=>QW rfl (Q8 Qf) Qp Vv rfl rfl (fun b37=>X0 (bs':=[(b2,.cells [.bool false,.slice none 0 0].toArray 143 (0,0))]++i.ob) (bh _) ?_))
    refine Kf (ob:=i.ob) (k:=1) (sz:=1) (news:=[.int .i64 ((JA i.s':Int))]) rfl rfl Qf Qp Vv rfl Dp i.hr (Src.row (off:=0) (fun F h9=>h9.2) (fun j v hv=>by rw [aM];show([.int .i64 ((JA i.s':Int))].toArray)[j]?=some v;rw [aG];exact hv) rfl) (by omega) (by omega) (ZX wK) (fun v38 ob38 hr38=>?_)
    obtain ⟨r,hv,hrn,hrc,hfix⟩:=Qx.fix (w0:=w) (F0:=F) (bs1:=[(b2,.cells [.bool false,.slice none 0 0].toArray 143 (0,0))]) (G:=_) hr38
    refine DM hfix ?_
    rw [hv]
    refine QH rfl (fun w F hF ⟨⟨⟨⟨hT,_⟩,_⟩,hs37⟩,hX⟩=>YD hF (r:=r) (l:=i.out++[(JA i.s':Int)]) (neg:=aD s [45]) ⟨by rw [hrn];simpa [Qy] using hX,by rw [hrn];simp,by omega⟩ (i.dg.append (DG.cons (by omega) (Pr i.al h9) (DG.nil _))) (by first | omega | (simp;omega))) (fun c39=>QR (vs:=[_,_]) rfl rfl rfl JW rfl .here .h2 wL<|wC<|QS ?_)
    exact QP (c39) rfl (.Jd (c:=[_,_]) rfl JW .here .nil) (rfl) (fun F ⟨⟨⟨⟨⟨hT,_⟩,_⟩,hs37⟩,hX⟩,h39⟩=>(by rw [ye i.h] at h39;exact h39))
theorem D1 (z:Int):(X1 z).length≤sz z+2:=by
 have h:(aL z.natAbs).length≤sz z+1:=by
  rw [bw]
  refine Zj ?_ (by omega)
  have h1:=Hm z
  have h2:2^sz z≤10^sz z:=eZ (by decide) _
  have h3:10^sz z≤10^(sz z+1):=bn (by decide) (by omega)
  omega
 rcases bX z 0 with g | g
 ·rw [YU g,ax];omega
 ·rw [J3 g];omega
theorem Ug (n:Nat):(aL n).length≤sz (n:Int)+1:=by
 rw [bw]
 refine Zj ?_ (by omega)
 have h1:=Hm (n:Int)
 have h2:2^sz (n:Int)≤10^sz (n:Int):=eZ (by decide) _
 have h3:10^sz (n:Int)≤10^(sz (n:Int)+1):=bn (by decide) (by omega)
 simp at h1
 omega
theorem V6 (x:Rat):(JN x).length≤2*JL x+4:=by
 have h1:=D1 x.num
 have h2:=Ug x.den
 have h3:=Jl x
 have h4:=Jf x
 unfold JN
 split
 ·omega
 ·rw [aj,ax];omega
theorem RW {l:List UInt8} (h:l.contains 47=false):l.all (fun c=>!XY c)=true:=by
 rw [fe]
 intro c hc
 have:c≠47:=by rintro rfl;simp [hc] at h
 simp [XY,this]
theorem G3 (z:Int):(X1 z).contains 47=false:=Bl z (by decide) (by decide)
theorem PK {x:Rat} (h:x.den=1):JN x=X1 x.num∧ahead XY (JN x)=(JN x).length:=by
 have e:JN x=X1 x.num:=by unfold JN;rw [if_pos h]
 exact⟨e,by rw [e];exact RY (RW (G3 _))⟩
theorem GR {x:Rat} (h:x.den≠1):ahead XY (JN x)=(X1 x.num).length∧ahead XY (JN x)<(JN x).length∧(JN x).take (ahead XY (JN x))=X1 x.num∧(JN x).drop (ahead XY (JN x)+1)=aL x.den:=by
 have e:JN x=X1 x.num++47::aL x.den:=by unfold JN;rw [if_neg h]
 have h1:ahead XY (JN x)=(X1 x.num).length:=by
  refine RX (by rw [e];simp) ?_ ?_
  ·rw [e,List.take_append_of_le_length (aq _),bU];exact RW (G3 _)
  ·simp [e,XY]
 rw [h1]
 refine⟨rfl,by rw [e];simp,?_,?_⟩
 ·rw [e];simp
 ·rw [e,List.drop_append];simp
theorem PL (x:Rat):(ahead XY (JN x)=(JN x).length)↔x.den=1:=by
 constructor
 ·intro h
  by_cases g:x.den=1
  ·exact g
  ·have:=(GR g).2.1;omega
 ·intro h;exact(PK h).2
theorem P1 (z:Int):XK (ab (X1 z) [45])=true:=by rw [V8];exact Jb _
theorem I6 (n:Nat):XK (ab (aL n) [45])=true:=by rw [Zf (Jb n)];exact Jb _
theorem IQ (n:Nat):YA (aL n)=n:=by rw [XM (Jb n),XI]
@[reducible] def Ri.v2 (c:Ri×Ri):ai:=.tuple #[c.1.v,c.2.v]
theorem Bh {w:ar} {F:Gs} {x:Rat} (hF:Fits F w) (hl:JL x≤100000):QT Tryz.prog 119 [tx (JN x)] w F Ri.v2 (fun c F=>Vi F c.1 x.num∧Vi F c.2 x.den):=by
 have hlen:=V6 x
 refine QT.intro (G:=fun F=>True) Tryz.func119 rfl (by rfl) rfl rfl hF (fun F' hF'=>trivial)<|wE<|Qg Yw (fun b2=>Qg Yw (fun b3=>wC<|wF rfl<|wD rfl<|wF rfl<|QH rfl (fun w F hF hT=>ED hF (by omega)) (fun _=>wD rfl<|QG<|wF rfl<|wA rfl ?_)))
 refine QA (XF rfl Xp)<|QA (QU rfl rfl rfl)<|QE<|QC ?_
 refine QQ rfl (fun hc=>?_) (fun hc=>?_)
 ·
  have hd:x.den=1:=(PL x).1 (by have:(ahead XY (JN x):Int)=((JN x).length:Int):=(by simpa using hc);omega)
  rw [(PK hd).1]
  refine wF rfl<|QH rfl (fun w F hF h9=>Hq hF (P1 _) (by have:=D1 x.num;have:=Jl x;omega)) (fun c14=>QH rfl (fun w F hF h9=>Ml hF (by decide)) (fun c15=>QR (vs:=[_,_]) rfl rfl rfl JW rfl .u1 .h2 wL<|QR (vs:=[_,_]) rfl rfl rfl JW rfl .here .h2 wL<|wC<|QS ?_))
  exact Ja ((c14,c15):Ri×Ri) rfl (.Jd (c:=[_,_]) rfl JW .u1 (.Jd (c:=[_,_]) rfl JW .here .nil)) (rfl) (fun F ⟨⟨⟨hT,_⟩,h14⟩,h15⟩=>⟨by rw [YS] at h14;exact h14,by have e:(x.den:Int)=1:=(by rw [hd];rfl);rw [e];exact h15⟩)
 ·
  have hd:¬ x.den=1:=fun g=>by have:=(PL x).2 g;rw [this] at hc;simp at hc
  obtain ⟨k1,k2,k3,k4⟩:=GR hd
  refine QO<|QC<|QG<|JV (.cons _ (.cons _ .slnil)) mixed (by kernel_rfl)<|QK (QD rfl)<|QK (QD rfl)<|QK (Hx (ahead XY (JN x)) rfl rfl Xp rfl (by omega)) ?_
  rw [k3]
  refine Qd rfl (fun w F hF h9=>Hq hF (P1 _) (by have:=D1 x.num;have:=Jl x;omega)) (fun c19=>QK (QD rfl)<|QK (QD rfl)<|QK (Qs rfl rfl (by omega))<|QK (K4 ((ahead XY (JN x)+1)) rfl rfl Xp (congrArg (fun z:Int=>some (aa .i64 z)) (by omega)) (by omega)) ?_)
  rw [k4]
  refine Qd rfl (fun w F hF h9=>Hq hF (I6 _) (by have:=Ug x.den;have:=Jf x;omega)) (fun c24=>JE (vs:=[_,_]) rfl rfl rfl JW rfl .u1 (.cons _ .slnil) (fun _ h=>h.1.1) .h2 wL<|JE (vs:=[_,_]) rfl rfl rfl JW rfl .here (.cons _ .slnil) (fun _ h=>h.1.1) .h2 wL<|Q3<|QC<|QS ?_)
  exact Ja ((c19,c24):Ri×Ri) rfl (.Jd (c:=[_,_]) rfl JW .u1 (.Jd (c:=[_,_]) rfl JW .here .nil)) (rfl) (fun F ⟨⟨⟨hT,_⟩,Sw⟩,h24⟩=>⟨by rw [YS] at Sw;exact Sw,by rw [IQ] at h24;exact h24⟩)
structure QAx (zx zy:Int) where
 n:Ri
 d:Ri
 zn:Int
 zd:Int
 h:0<zd
 e:aT zn zd=aT zx zy
 sn:sz zn≤500000
 sd:sz zd≤500000
def GM (x:Rat):Rat:=if x.num<0 then -x else x
theorem xR (x:Rat):JL (GM x)=JL x:=by
 unfold GM;split
 ·exact GB x
 ·rfl
def vT (x:Rat) (c:Int×Int×Bool):Prop:=c.2.2=true→c.1=x.num∧c.2.1=(x.den:Int)∧x.num.natAbs<1000000000∧x.den<1000000000
theorem TP:JN 0=[48]:=by
 have h:(0:Rat).num=0:=rfl
 unfold JN
 rw [if_pos (by rfl),h,J3 (by decide)];exact Zq
def La (s:List UInt8):Bool:=!XV ((ab s [45]).take (ahead XY (ab s [45])))||(aD s [45]&&(ab s [45]).take (ahead XY (ab s [45]))==[48])
def MJ (s:List UInt8):List UInt8:=(ab s [45]).drop (ahead XY (ab s [45])+1)
def Pm (s:List UInt8):Bool:=decide (ahead XY (ab s [45])<(ab s [45]).length)
def LI (s:List UInt8):Bool:=Pm s&&(!XV (MJ s)||(MJ s==[48]||MJ s==[49]))
def LZ (s:List UInt8):Bool:=decide (600<ahead XY (ab s [45]))||decide (600<(MJ s).length)
def CP (s:List UInt8):Bool:=Pm s&&!(fc (JA ((ab s [45]).take (ahead XY (ab s [45])))) (JA (MJ s))==1)
def Si (s:List UInt8):Int:=if La s=true then 1 else if LI s=true then 1 else if LZ s=true then 4 else if CP s=true then 1 else 0
structure KF {α:Type} (l:List α) (f:α→Int) where
 i:Nat
 le:i≤l.length
 h:Ql (l.map f)=Ql ((l.map f).drop i)
section
variable {α:Type} [Inhabited α] {l:List α} {f:α→Int}
theorem SE {i:Nat} (hi:i<l.length):(l.map f)[i]'(by simpa using hi)=f (el l i):=by rw [eE,X5 hi]
def KF.next (s:KF l f) (hi:s.i<l.length) (h:f (el l s.i)=0):KF l f:=⟨s.i+1,hi,by
 rw [s.h,KY (by simpa using hi) (by rw [SE hi];exact h)]⟩
theorem KF.hit (s:KF l f) (hi:s.i<l.length) (h:f (el l s.i)≠0):Ql (l.map f)=f (el l s.i):=by
 rw [s.h,Wg (by simpa using hi) (by rw [SE hi];exact h),SE hi]
theorem KF.stop (s:KF l f) (hi:l.length≤s.i):Ql (l.map f)=0:=by
 rw [s.h,au (by simpa using hi)];rfl
end
def KF.start {α:Type} (l:List α) (f:α→Int):KF l f:=⟨0,aF _,rfl⟩
structure Pa {α:Type} (l:List α) (p:α→Bool) where
 i:Nat
 le:i≤l.length
 h:l.all p=(l.drop i).all p
section
variable {α:Type} [Inhabited α] {l:List α} {p:α→Bool}
def Pa.next (s:Pa l p) (hi:s.i<l.length) (h:p (el l s.i)=true):Pa l p:=⟨s.i+1,hi,by rw [s.h,MI hi,eL,h,Bool.true_and]⟩
theorem Pa.hit (s:Pa l p) (hi:s.i<l.length) (h:p (el l s.i)=false):l.all p=false:=by rw [s.h,MI hi,eL,h,Bool.false_and]
theorem Pa.stop (s:Pa l p) (hi:l.length≤s.i):l.all p=true:=by rw [s.h,au hi];rfl
end
def Pa.start {α:Type} (l:List α) (p:α→Bool):Pa l p:=⟨0,aF _,rfl⟩
def Nk (a:List UInt8) (d:Int):Bool:=decide ((a.length:Int)≤2*d+2)&&(Jg a==0&&(decide (((C1 (numOf a)).length:Int)≤d)&&decide (((UM a).length:Int)≤d)))
def Cy (x y:Rat):Rat:=if Wr x y≤0 then x else y
def Cz (x y:Rat):Rat:=if Wr x y≥0 then x else y
@[reducible] def xJ (a:Rat×Rat):ai:=.agg #[tx (JN a.1),tx (JN a.2)]
def gO (k:Nat) (a:Rat×Rat):Prop:=JL a.1≤k∧JL a.2≤k
def zL (s:Rat×Rat) (l:List (Rat×Rat)):Rat×Rat:=l.foldl (fun s p=>(Cy s.1 p.1,Cz s.2 p.2)) s
def cJ (p:Rat×Rat):List ai:=[tx (JN p.1),tx (JN p.2)]
theorem gv (p:Rat×Rat):(cJ p).length=2:=rfl
structure QBa (l:List (Rat×Rat)) where
 i:Nat
 s:Rat×Rat
 le:i≤l.length
 sz:gO 20000 s
 h:zL s (l.drop i)=zL (el l 0) (l.drop 1)
section
open Go Go.RowKit
section
variable [Dr] [df:Df]
def W3 (l:List Oper) (r:List Nat) (i:Nat):Bool:=match l[i]? with
 |some o=>o.after.all fun e=>!(ew .any e)||!(r.contains e.on)
 |none=>false
def AI (l:List Oper) (i:Nat):Bool:=match l[i]? with
 |some o=>Jt o.op
 |none=>false
def PA (l:List Oper) (r:List Nat):Option Nat:=r.find? fun i=>AI l i&&W3 l r i
def My (l:List Oper):Bool :=
 Region.noSelect l.toArray&&KW .any l.toArray l.length&&(fK l.length).all fun j=>match l[j]? with
  |none=>false
  |some oj=>(fK j).all fun i=>match l[i]? with
   |none=>false
   |some oi=>if Jt oi.op||Jt oj.op then(bA .any l.toArray j i||oi.apart l.toArray oj) else true
theorem Mx {l:List Oper} (h:My l=true) {i j:Nat} (hij:i<j) {oi oj:Oper} (hi:l[i]?=some oi) (hj:l[j]?=some oj) (hq:(Jt oi.op||Jt oj.op)=true):(bA .any l.toArray j i||oi.apart l.toArray oj)=true:=by
 simp only [My,ay] at h
 have hjl:j<l.length:=by rcases aQ j l.length with g | g;exact g;rw [aX g] at hj;cases hj
 have h1:=List.all_eq_true.1 h.2 j (List.mem_range.2 hjl)
 rw [hj] at h1
 have h2:=List.all_eq_true.1 h1 i (List.mem_range.2 hij)
 rw [hi] at h2
 simp only at h2
 rw [if_pos hq] at h2;exact h2
section
variable {P:aS} {Q:Exit→Act→ar→Prop} {S:ar→Prop}
def Em (P:aS) (l:List Oper) (Q:Exit→Act→ar→Prop) (S:ar→Prop):Nat→List Nat→Act→ar→Prop
 |0,_,a,w=>Q .normal a w
 |n+1,r,a,w=>match PA l r with
  |some i=>∃ o v,l[i]?=some o∧YieldsIf P l.toArray S o v a∧Em P l Q S n (r.erase i) (a.put o.dst v) w
  |none=>∀ i∈r,W3 l r i=true→wpOp P l.toArray (fun _ _ _=>False) i (fun a' w'=>S w'∧Em P l Q S n (r.erase i) a' w') a w
theorem Lz {l:List Oper} (hB:My l=true) (hQ:∀ c a d v w,Q (.panic c) (Act.put a d v) w→Q (.panic c) a w) :
  ∀ (m:Nat) (r:List Nat) (listed:Array Bool) (a:Act) (w:ar),r.length=m→r.Pairwise (·<·)→(∀ i,i∈r↔i<l.length∧listed.getD i true=false)→listed.size=l.length →
   (∀ j oj,l.toArray[j]?=some oj→listed.getD j false=true→∀ e∈oj.after,ew .any e=true→listed.getD e.on false=true)→S w→Em P l Q S m r a w→wpAnyH P .any l.toArray Q S m listed a w:=by
 have hB':=hB
 simp only [My,ay] at hB'
 obtain ⟨⟨hns,hord⟩,_⟩:=hB'
 have hsel:=Region.noSelect_spec hns
 intro m
 induction m with
 |zero =>
  intro r listed a w hm hs hr hsz hcl hS h
  have:r=[]:=List.length_eq_zero_iff.1 hm
  subst this
  refine⟨?_,h⟩
  rw [List.eq_nil_iff_forall_not_mem]
  intro i hi
  obtain ⟨h1,o,ho,_⟩:=mem_ready.1 hi
  have hlt:i<l.length:=by have:=(Array.getElem?_eq_some_iff.1 ho).1;simpa using this
  have:=(hr i).2 ⟨hlt,h1⟩
  cases this
 |succ m ih =>
  intro r listed a w hm hs hr hsz hcl hS h
  have hready:∀ j,j∈eu .any l.toArray listed↔j∈r∧W3 l r j=true:=by
   intro j
   rw [mem_ready,hr j]
   constructor
   ·rintro ⟨h1,o,ho,h2⟩
    have hlt:j<l.length:=by have:=(Array.getElem?_eq_some_iff.1 ho).1;simpa using this
    refine⟨⟨hlt,h1⟩,?_⟩
    unfold W3
    have ho':l[j]?=some o:=by simpa using ho
    rw [ho']
    rw [ez]
    intro e he
    cases hb:ew .any e with
    |false=>rfl
    |true =>
     have:=h2 e he hb
     simp only [Bool.not_true,fu,fb,List.contains_eq_mem,decide_eq_false_iff_not]
     intro hmem
     have h3:=((hr e.on).1 hmem).2
     rw [getD_both h3] at this;cases this
   ·rintro ⟨⟨hlt,h1⟩,h2⟩
    obtain ⟨o,ho,hed⟩:=Xt hord hlt
    refine⟨h1,o,ho,fun e he hb=>?_⟩
    unfold W3 at h2
    have ho':l[j]?=some o:=by simpa using ho
    rw [ho',ez] at h2
    have:=h2 e he
    rw [hb] at this
    simp only [Bool.not_true,fu,fb,List.contains_eq_mem,decide_eq_false_iff_not] at this
    cases hv:listed.getD e.on false with
    |true=>rfl
    |false =>
     have hel:=hed e he hb
     exact absurd ((hr e.on).2 ⟨by omega,getD_in (by omega) hv⟩) this
  have next:∀ j,j∈eu .any l.toArray listed→∀ a' w',S w'→Em P l Q S m (r.erase j) a' w'→wpAnyH P .any l.toArray Q S m (listed.setIfInBounds j true) a' w':=by
   intro j hj a' w' hS' h'
   have hjr:=((hready j).1 hj).1
   have hjsz:j<listed.size:=by rw [hsz];exact((hr j).1 hjr).1
   refine ih (r.erase j) _ a' w' (by rw [eK hjr];omega) (hs.sublist List.erase_sublist) (fun k=>?_) (by simpa using hsz) (fun k ok hk hl e he hb=>?_) hS' h'
   ·rw [List.Nodup.mem_erase_iff (hs.imp (fun h=>Nat.ne_of_lt h)),hr k]
    by_cases hjk:j=k
    ·subst hjk;simp [hjsz]
    ·rw [getD_set_ne true hjk];simp [Ne.symm hjk]
   ·by_cases hjk:j=k
    ·subst hjk
     obtain ⟨_,oj,hoj,hall⟩:=mem_ready.1 hj
     have:ok=oj:=ep (hk.symm.trans hoj)
     subst this
     exact getD_set_true (hall e he hb)
    ·rw [getD_set_ne false hjk] at hl
     exact getD_set_true (hcl k ok hk hl e he hb)
  unfold Em at h
  cases hp:PA l r with
  |some j =>
   rw [hp] at h
   obtain ⟨oj,v,hoj0,hy,h'⟩:=h
   have hoj:l.toArray[j]?=some oj:=by simpa using hoj0
   have hjr:j∈r:=List.mem_of_find?_eq_some hp
   have hqr:=List.find?_some hp
   simp only [ay] at hqr
   have hq:Jt oj.op=true:=by have:=hqr.1;unfold AI at this;rw [hoj0] at this;exact this
   have hj:j∈eu .any l.toArray listed:=(hready j).2 ⟨hjr,hqr.2⟩
   have hjs:=mem_ready.1 hj
   have happ:∀ k ok,l.toArray[k]?=some ok→k≠j→listed.getD k true=false→(∀ e∈ok.after,ew .any e=true→e.on≠j)→oj.apart l.toArray ok=true:=by
    intro k ok hok hkj hun hno
    have hnw:bA .any l.toArray k j=false:=by
     cases hv:bA .any l.toArray k j with
     |false=>rfl
     |true =>
      obtain ⟨o',ho',e,he,hb,hon⟩:=eP hv
      have:o'=ok:=ep (ho'.symm.trans hok)
      subst this
      exact absurd hon (hno e he hb)
    have hnw2:bA .any l.toArray j k=false:=by
     cases hv:bA .any l.toArray j k with
     |false=>rfl
     |true =>
      obtain ⟨o',ho',e,he,hb,hon⟩:=eP hv
      obtain ⟨_,o2,ho2,hall⟩:=hjs
      have:o'=o2:=ep (ho'.symm.trans ho2)
      subst this
      have:=hall e he hb
      rw [hon,getD_both hun] at this;cases this
    rcases Nat.lt_or_gt_of_ne hkj with hlt | hgt
    ·have:=Mx hB hlt (by simpa using hok) (by simpa using hoj) (by simp [hq])
     rw [hnw2] at this
     exact Ny (by simpa using this)
    ·have:=Mx hB hgt (by simpa using hoj) (by simpa using hok) (by simp [hq])
     rw [hnw] at this
     simpa using this
   exact wpAnyH_first hoj hsel (fun c a w h=>hQ c a _ v w h) m listed a w happ hj hy hS (next j hj _ w hS h')
  |none =>
   rw [hp] at h
   match r,hm,hs,hr,h,hready,next with
   |i::r,hm,hs,hr,h,hready,next =>
    have hil:=(hr i).1 (by simp)
    have hmin:∀ j,j<i→listed.getD j false=true:=by
     intro j hj
     cases hv:listed.getD j false with
     |true=>rfl
     |false =>
      have hjl:j<l.length:=by omega
      have:=(hr j).2 ⟨hjl,getD_in (by omega) hv⟩
      rcases List.mem_cons.1 this with e | e
      ·omega
      ·have:=(List.pairwise_cons.1 hs).1 j e;omega
    obtain ⟨oi,hoi,hed⟩:=Xt hord hil.1
    have hri:i∈eu .any l.toArray listed:=mem_ready.2 ⟨hil.2,oi,hoi,fun e he hb=>hmin _ (hed e he hb)⟩
    refine⟨fun h0=>(by rw [h0] at hri;cases hri),fun j hj=>?_⟩
    have hj':=(hready j).1 hj
    exact S1 (wpOp_mono (fun a' w' h=>⟨h.1,next j hj a' w' h.1 h.2⟩) (h j hj'.1 hj'.2))
theorem PF {l:List Oper} {Q':Exit→Act→ar→Prop} (hB:My l=true) (hQ:∀ c a w,¬ Q' (.panic c) a w) {a:Act} {w:ar} (hS:S w) (h:Em P l Q' S l.length (eF 0 l.length) a w) :
  wpAny P .any l.toArray Q' l.length (Array.replicate l.length false) a w:=by
 refine wpAny_of_held _ _ _ _ (Lz hB (fun c a d v w h=>absurd h (hQ c _ w)) l.length (eF 0 l.length) _ a w (by simp) List.pairwise_lt_range' (fun i=>?_) (by simp) (fun j oj _ hl=>(by rw [getD_replicate_false] at hl;cases hl)) hS h)
 rw [List.mem_range'_1]
 constructor
 ·intro h
  have:i<l.length:=by omega
  simp [this]
 ·intro h;omega
theorem Mr {id:Nat} {a:Act} {w:ar} {l:List Oper} (hm:P.follows .mixedOrders=true) (hB:My l=true) (hS:S { w with drawn:=w.drawn+1 })
  (h:Em P l (Xl (Q .normal)) S l.length (eF 0 l.length) a { w with drawn:=w.drawn+1 }):(Code.region id l.toArray true).wp P Q a w:=by
 refine wp_region_any hm ?_
 have:=PF (P:=P) (Q':=Xl (Q .normal)) hB (fun c a w h=>h) hS h
 simpa using Vm (Q':=Q) (fun e a w h=>by cases e<;>first | exact h | exact h.elim) _ _ _ _ this
end
section
variable {P:aS} {Q:Exit→Act→ar→Prop} {N:Nat} {m:Sl} {E E0:Env} {l:List Oper} {r r':List Nat} {w0:ar} {F0:Gs} {bs:List (Nat×Obj)} {G:Gs→Prop}
def JT (P:aS) (l:List Oper) (Q:Exit→Act→ar→Prop) (E0:Env) (r:List Nat) (N:Nat) (m:Sl) (E:Env):Prop:=(∀ w,St E w→St E0 w)→∀ a w,Jx N m a→St E w→Em P l Q (St E0) r.length r a w
def Hb (P:aS) (l:List Oper) (Q:Exit→Act→ar→Prop) (E0:Env) (r:List Nat):Act→ar→Prop:=fun a w=>Em P l Q (St E0) r.length r a w
theorem XJ (h:JT P l Q E0 r N m E):JD P l.toArray (Xl (Hb P l Q E0 r)) E0 [] N m E:=fun hE a w ha hw=>h hE a w ha hw
theorem RI {i:Nat} (h:i∈r):r.length=(r.erase i).length+1:=by
 rw [eK h]
 have:=List.length_pos_of_mem h
 omega
theorem Ay (i:Nat) {o:Oper} (hp:PA l r=some i) (ho:l[i]?=some o) (he:r.erase i=r') (h:JD P l.toArray (Xl (Hb P l Q E0 r')) E0 [o] N m E):JT P l Q E0 r N m E:=by
 intro hE a w ha hw
 subst he
 have hi:i∈r:=List.mem_of_find?_eq_some hp
 rw [RI hi]
 unfold Em
 rw [hp]
 have hq:Jt o.op=true:=by
  have:=List.find?_some hp
  simp only [ay] at this
  have:=this.1;unfold AI at this;rw [ho] at this;exact this
 rcases h hE a w ha hw with ⟨_,v,h1,h2⟩ | ⟨h1,_⟩
 ·exact⟨o,v,ho,h1,h2⟩
 ·rw [hq] at h1;cases h1
theorem Uv {i:Nat} {o:Oper} (ho:l[i]?=some o) (hq:Jt o.op=false) (h:JD P l.toArray (Xl (Hb P l Q E0 r')) E0 [o] N m E) (hE:∀ w,St E w→St E0 w) {a:Act} {w:ar} (ha:Jx N m a) (hw:St E w) :
  wpOp P l.toArray (fun _ _ _=>False) i (fun a' w'=>St E0 w'∧Hb P l Q E0 r' a' w') a w:=by
 have ho':l.toArray[i]?=some o:=by simpa using ho
 unfold wpOp
 simp only [ho']
 rcases h hE a w ha hw with ⟨h1,_⟩ | ⟨_,h2⟩
 ·rw [hq] at h1;cases h1
 ·split
  ·rename_i g
   rw [if_pos g] at h2
   exact .inl h2
  ·rename_i g
   rw [if_neg g] at h2
   exact h2
theorem gJ (hp:PA l r=none) (h:∀ i∈r.filter (W3 l r),∃ o,l[i]?=some o∧Jt o.op=false∧JD P l.toArray (Xl (Hb P l Q E0 (r.erase i))) E0 [o] N m E) (hr:r≠[]:=by decide):JT P l Q E0 r N m E:=by
 intro hE a w ha hw
 obtain ⟨x,s,rfl⟩:=List.exists_cons_of_ne_nil hr
 show Em P l Q (St E0) (s.length+1) (x::s) a w
 unfold Em
 rw [hp]
 intro i hi hrd
 obtain ⟨o,ho,hq,hj⟩:=h i (List.mem_filter.2 ⟨hi,hrd⟩)
 have:=Uv ho hq hj hE ha hw
 refine wpOp_mono (fun a' w' h=>⟨h.1,?_⟩) this
 have h2:=h.2
 unfold Hb at h2
 rw [show s.length=((x::s).erase i).length by have:=RI hi;simp at this;omega]
 exact h2
theorem Xg (i:Nat) {o:Oper} (hp:PA l r=none) (hl:r.filter (W3 l r)=[i]) (ho:l[i]?=some o) (hq:Jt o.op=false) (he:r.erase i=r') (h:JD P l.toArray (Xl (Hb P l Q E0 r')) E0 [o] N m E) (hr:r≠[]:=by decide):JT P l Q E0 r N m E :=
 gJ hp (fun k hk=>by rw [hl] at hk;cases List.mem_singleton.1 hk;exact⟨o,ho,hq,he ▸ h⟩) hr
theorem E5 (i j:Nat) {o u:Oper} {r2:List Nat} (hp:PA l r=none) (hl:r.filter (W3 l r)=[i,j]) (ho:l[i]?=some o) (hu:l[j]?=some u) (hq:Jt o.op=false) (hq2:Jt u.op=false) (he:r.erase i=r') (he2:r.erase j=r2)
  (h:JD P l.toArray (Xl (Hb P l Q E0 r')) E0 [o] N m E) (h2:JD P l.toArray (Xl (Hb P l Q E0 r2)) E0 [u] N m E) (hr:r≠[]:=by decide):JT P l Q E0 r N m E :=
 gJ hp (fun k hk=>by
  rw [hl] at hk
  simp only [bg,bV,or_false] at hk
  rcases hk with rfl | rfl
  ·exact⟨o,ho,hq,he ▸ h⟩
  ·exact⟨u,hu,hq2,he2 ▸ h2⟩) hr
theorem xD {id:Nat} {bs0:List (Nat×Obj)} (hb0:bs0.Sublist bs) (hm:P.follows .mixedOrders=true) (hB:My l=true) (hr:eF 0 l.length=r) (h:JT P l (Xl (Q .normal)) ⟨w0,F0,bs0,G⟩ r N m ⟨w0,F0,bs,G⟩):J P (.region id l.toArray true) Q N m ⟨w0,F0,bs,G⟩:=fun a w ha hw=>by
 subst hr
 refine Mr hm hB ((hw.imp hb0 fun _ h=>h).drew) ?_
 have:=h (fun _ h=>h.imp hb0 fun _ h=>h) a _ ha hw.drew
 simpa using this
theorem Y4 (h:Fin Q .normal N m E):JT P l (Xl (Q .normal)) E0 [] N m E:=fun _=>h
end
end
end
def Vo (a:Rat×Rat) (n:Int):Rat×Rat:=(if(decide (n>0)&&(decide (n%2=0)&&(decide (E7 a.1.num<0)&&decide (E7 a.2.num>0))))=true then 0 else(YH (a.1^n.toNat) [a.2^n.toNat]).1,(YH (a.1^n.toNat) [a.2^n.toNat]).2)
theorem TB {w:ar} {F:Gs} {x:Sp} {a:Rat×Rat} {n:Int} (hF:Fits F w) (h:ZO F x a) (hn:0≤n∧n≤12) (hz:JL a.1≤1000000∧JL a.2≤1000000):VK Tryz.prog 149 [x.v,.int .i64 n] w F (Vo a n):=by
 obtain ⟨z1,z2⟩:=hz
 have p1:=WT a.1 n.toNat
 have p2:=WT a.2 n.toNat
 have m1:n.toNat*JL a.1≤12*1000000:=ei (by omega) z1
 have m2:n.toNat*JL a.2≤12*1000000:=ei (by omega) z2
 dsimp only [Sp.v]
 refine QT.intro (G:=fun F=>ZO F x a) Tryz.func149 rfl (by rfl) rfl rfl hF (fun F' hF'=>h.le hF')<|QG<|QB ?_
 refine Q2 rfl (vs:=[_,_,_,_,_,_,_,_]) rfl (fun b2=>?_)
 refine Qg ZU (fun b4=>?_)
 refine QE<|QC ?_
 refine F6 (ι:=Nat×Sp) [(1,_),(2,_),(4,_)] (fun i=>[(5,.pointer (some ⟨i.1,0,none⟩))]) (fun i=>[(i.1,.cells [.int .i64 i.2.lo.n.s,.slice i.2.lo.n.q i.2.lo.n.n i.2.lo.n.cap,.int .i64 i.2.lo.d.s,.slice i.2.lo.d.q i.2.lo.d.n i.2.lo.d.cap,.int .i64 i.2.hi.n.s,.slice i.2.hi.n.q i.2.hi.n.n i.2.hi.n.cap,.int .i64 i.2.hi.d.s,.slice i.2.hi.d.q i.2.hi.d.n i.2.hi.d.cap].toArray 138 (0,0)),(b4,.cells [.int .i64 0,.slice none 0 0,.int .i64 0,.slice none 0 0,.int .i64 0,.slice none 0 0,.int .i64 0,.slice none 0 0].toArray 138 (0,0)),(b2,.cells [.int .i64 x.lo.n.s,.slice x.lo.n.q x.lo.n.n x.lo.n.cap,.int .i64 x.lo.d.s,.slice x.lo.d.q x.lo.d.n x.lo.d.cap,.int .i64 x.hi.n.s,.slice x.hi.n.q x.hi.n.n x.hi.n.cap,.int .i64 x.hi.d.s,.slice x.hi.d.q x.hi.d.n x.hi.d.cap].toArray 138 (0,0))]) (fun i F=>ZO F i.2 (YH (a.1^n.toNat) [a.2^n.toNat])) wM ?_ ?_
 ·
  refine xD (r:=[0,1,2,3,4,5,6,7,8,9,10,11]) (.cons_cons _ (.cons_cons _ .slnil)) mixed (by kernel_rfl) rfl<|Ay 0 (by kernel_rfl) rfl rfl<|QK (QI rfl Zk Qe)<|XJ<|Ay 1 (by kernel_rfl) rfl rfl<|QK (QJ (vs:=[_,_,_,_]) rfl Qe .u1 .h4 rfl)<|XJ<|Ay 2 (by kernel_rfl) rfl rfl<|QK (QD rfl)<|XJ<|Ay 4 (by kernel_rfl) rfl rfl<|QK (QI rfl Zw Qe)<|XJ<|Ay 5 (by kernel_rfl) rfl rfl<|QK (QJ (vs:=[_,_,_,_]) rfl Qe .u1 (.skip (.skip (.skip (.skip .h4)))) rfl)<|XJ<|Ay 6 (by kernel_rfl) rfl rfl<|QK (QD rfl)<|XJ ?_
  refine E5 3 10 (by kernel_rfl) (by kernel_rfl) rfl rfl rfl rfl rfl rfl ?_ ?_
  ·
   refine Qd rfl (fun w F hF ⟨⟨h1,h2⟩,⟨h3,h4⟩⟩=>En hF ⟨by assumption,by assumption⟩ (hn.1) (by omega) (by omega)) (fun x9=>?_)
   refine XJ ?_
   refine E5 7 10 (by kernel_rfl) (by kernel_rfl) rfl rfl rfl rfl rfl rfl ?_ ?_
   ·
    refine Qd rfl (fun w F hF ⟨⟨⟨h1,h2⟩,⟨h3,h4⟩⟩,⟨h9,h9_⟩⟩=>En hF ⟨by assumption,by assumption⟩ (hn.1) (by omega) (by omega)) (fun x13=>?_)
    refine XJ ?_
    refine E5 8 10 (by kernel_rfl) (by kernel_rfl) rfl rfl rfl rfl rfl rfl ?_ ?_
    ·
     refine Ju rfl (Q8 W2) Qe Xs rfl rfl (fun b14=>?_) (fun w h=>h.imp (.cons_cons _ (.cons_cons _ .slnil)) (fun F h=>h.1.1))
     refine XJ ?_
     refine E5 9 10 (by kernel_rfl) (by kernel_rfl) rfl rfl rfl rfl rfl rfl ?_ ?_
     ·
      refine Qd rfl (fun w F hF ⟨⟨⟨⟨⟨h1,h2⟩,⟨h3,h4⟩⟩,⟨h9,h9_⟩⟩,⟨h13,h13_⟩⟩,hs14⟩=>Kb hF (⟨h9,h9_⟩) (ps:=[(x13,a.2^n.toNat)]) (Q6.of (n:=1) (sz:=4) hs14 rfl) (fun p hp=>by simp only [az] at hp;subst hp;exact⟨h13,h13_⟩) rfl (by omega) (⟨by omega,fun p hp=>by simp only [az] at hp;subst hp;show JL (a.2^n.toNat)≤50000000;omega⟩)) (fun x15=>?_)
      refine XJ<|Xg 10 (by kernel_rfl) (by kernel_rfl) rfl rfl rfl ?_
      refine ZH ZU (fun b5=>?_)
      refine XJ<|Xg 11 (by kernel_rfl) (by kernel_rfl) rfl rfl rfl<|JE (vs:=[_,_,_,_,_,_,_,_]) rfl rfl rfl Jq rfl .here (.cons_cons _ (.cons_cons _ .slnil)) (fun _ h=>h.1.1.1.1) .h8 wR<|XJ<|Y4 ?_
      exact J0 ((b5,x15)) wN wG (fun F h9=>⟨⟨⟨h9.1.1.1.1.1.1,h9.1.1.1.1.1.2⟩,⟨h9.1.1.1.1.2.1,h9.1.1.1.1.2.2⟩⟩,⟨⟨h9.2.1.1,h9.2.1.2⟩,⟨h9.2.2.1,h9.2.2.2⟩⟩⟩)
     ·
      refine ZH ZU (fun b5=>?_)
      refine XJ<|Xg 9 (by kernel_rfl) (by kernel_rfl) rfl rfl rfl ?_
      refine Qd rfl (fun w F hF ⟨⟨⟨⟨⟨h1,h2⟩,⟨h3,h4⟩⟩,⟨h9,h9_⟩⟩,⟨h13,h13_⟩⟩,hs14⟩=>Kb hF (⟨h9,h9_⟩) (ps:=[(x13,a.2^n.toNat)]) (Q6.of (n:=1) (sz:=4) hs14 rfl) (fun p hp=>by simp only [az] at hp;subst hp;exact⟨h13,h13_⟩) rfl (by omega) (⟨by omega,fun p hp=>by simp only [az] at hp;subst hp;show JL (a.2^n.toNat)≤50000000;omega⟩)) (fun x15=>?_)
      refine XJ<|Xg 11 (by kernel_rfl) (by kernel_rfl) rfl rfl rfl<|JE (vs:=[_,_,_,_,_,_,_,_]) rfl rfl rfl Jq rfl .here (.cons_cons _ (.cons_cons _ .slnil)) (fun _ h=>h.1.1.1.1) .h8 wR<|XJ<|Y4 ?_
      exact J0 ((b5,x15)) wN wG (fun F h9=>⟨⟨⟨h9.1.1.1.1.1.1,h9.1.1.1.1.1.2⟩,⟨h9.1.1.1.1.2.1,h9.1.1.1.1.2.2⟩⟩,⟨⟨h9.2.1.1,h9.2.1.2⟩,⟨h9.2.2.1,h9.2.2.2⟩⟩⟩)
    ·
     refine ZH ZU (fun b5=>?_)
     refine XJ<|Xg 8 (by kernel_rfl) (by kernel_rfl) rfl rfl rfl ?_
     refine Ju rfl (Q8 W2) Qe Xs rfl rfl (fun b14=>?_) (fun w h=>h.imp (.cons _ (.cons_cons _ (.cons_cons _ .slnil))) (fun F h=>h.1.1))
     refine XJ<|Xg 9 (by kernel_rfl) (by kernel_rfl) rfl rfl rfl ?_
     refine Qd rfl (fun w F hF ⟨⟨⟨⟨⟨h1,h2⟩,⟨h3,h4⟩⟩,⟨h9,h9_⟩⟩,⟨h13,h13_⟩⟩,hs14⟩=>Kb hF (⟨h9,h9_⟩) (ps:=[(x13,a.2^n.toNat)]) (Q6.of (n:=1) (sz:=4) hs14 rfl) (fun p hp=>by simp only [az] at hp;subst hp;exact⟨h13,h13_⟩) rfl (by omega) (⟨by omega,fun p hp=>by simp only [az] at hp;subst hp;show JL (a.2^n.toNat)≤50000000;omega⟩)) (fun x15=>?_)
     refine XJ<|Xg 11 (by kernel_rfl) (by kernel_rfl) rfl rfl rfl<|JE (vs:=[_,_,_,_,_,_,_,_]) rfl rfl rfl Jq rfl .here (.cons_cons _ (.cons_cons _ .slnil)) (fun _ h=>h.1.1.1.1) .h8 wR<|XJ<|Y4 ?_
     exact J0 ((b5,x15)) wN wG (fun F h9=>⟨⟨⟨h9.1.1.1.1.1.1,h9.1.1.1.1.1.2⟩,⟨h9.1.1.1.1.2.1,h9.1.1.1.1.2.2⟩⟩,⟨⟨h9.2.1.1,h9.2.1.2⟩,⟨h9.2.2.1,h9.2.2.2⟩⟩⟩)
   ·
    refine ZH ZU (fun b5=>?_)
    refine XJ<|Xg 7 (by kernel_rfl) (by kernel_rfl) rfl rfl rfl ?_
    refine Qd rfl (fun w F hF ⟨⟨⟨h1,h2⟩,⟨h3,h4⟩⟩,⟨h9,h9_⟩⟩=>En hF ⟨by assumption,by assumption⟩ (hn.1) (by omega) (by omega)) (fun x13=>?_)
    refine XJ<|Xg 8 (by kernel_rfl) (by kernel_rfl) rfl rfl rfl ?_
    refine Ju rfl (Q8 W2) Qe Xs rfl rfl (fun b14=>?_) (fun w h=>h.imp (.cons _ (.cons_cons _ (.cons_cons _ .slnil))) (fun F h=>h.1.1))
    refine XJ<|Xg 9 (by kernel_rfl) (by kernel_rfl) rfl rfl rfl ?_
    refine Qd rfl (fun w F hF ⟨⟨⟨⟨⟨h1,h2⟩,⟨h3,h4⟩⟩,⟨h9,h9_⟩⟩,⟨h13,h13_⟩⟩,hs14⟩=>Kb hF (⟨h9,h9_⟩) (ps:=[(x13,a.2^n.toNat)]) (Q6.of (n:=1) (sz:=4) hs14 rfl) (fun p hp=>by simp only [az] at hp;subst hp;exact⟨h13,h13_⟩) rfl (by omega) (⟨by omega,fun p hp=>by simp only [az] at hp;subst hp;show JL (a.2^n.toNat)≤50000000;omega⟩)) (fun x15=>?_)
    refine XJ<|Xg 11 (by kernel_rfl) (by kernel_rfl) rfl rfl rfl<|JE (vs:=[_,_,_,_,_,_,_,_]) rfl rfl rfl Jq rfl .here (.cons_cons _ (.cons_cons _ .slnil)) (fun _ h=>h.1.1.1.1) .h8 wR<|XJ<|Y4 ?_
    exact J0 ((b5,x15)) wN wG (fun F h9=>⟨⟨⟨h9.1.1.1.1.1.1,h9.1.1.1.1.1.2⟩,⟨h9.1.1.1.1.2.1,h9.1.1.1.1.2.2⟩⟩,⟨⟨h9.2.1.1,h9.2.1.2⟩,⟨h9.2.2.1,h9.2.2.2⟩⟩⟩)
  ·
   refine ZH ZU (fun b5=>?_)
   refine XJ<|Xg 3 (by kernel_rfl) (by kernel_rfl) rfl rfl rfl ?_
   refine Qd rfl (fun w F hF ⟨⟨h1,h2⟩,⟨h3,h4⟩⟩=>En hF ⟨by assumption,by assumption⟩ (hn.1) (by omega) (by omega)) (fun x9=>?_)
   refine XJ<|Xg 7 (by kernel_rfl) (by kernel_rfl) rfl rfl rfl ?_
   refine Qd rfl (fun w F hF ⟨⟨⟨h1,h2⟩,⟨h3,h4⟩⟩,⟨h9,h9_⟩⟩=>En hF ⟨by assumption,by assumption⟩ (hn.1) (by omega) (by omega)) (fun x13=>?_)
   refine XJ<|Xg 8 (by kernel_rfl) (by kernel_rfl) rfl rfl rfl ?_
   refine Ju rfl (Q8 W2) Qe Xs rfl rfl (fun b14=>?_) (fun w h=>h.imp (.cons _ (.cons_cons _ (.cons_cons _ .slnil))) (fun F h=>h.1.1))
   refine XJ<|Xg 9 (by kernel_rfl) (by kernel_rfl) rfl rfl rfl ?_
   refine Qd rfl (fun w F hF ⟨⟨⟨⟨⟨h1,h2⟩,⟨h3,h4⟩⟩,⟨h9,h9_⟩⟩,⟨h13,h13_⟩⟩,hs14⟩=>Kb hF (⟨h9,h9_⟩) (ps:=[(x13,a.2^n.toNat)]) (Q6.of (n:=1) (sz:=4) hs14 rfl) (fun p hp=>by simp only [az] at hp;subst hp;exact⟨h13,h13_⟩) rfl (by omega) (⟨by omega,fun p hp=>by simp only [az] at hp;subst hp;show JL (a.2^n.toNat)≤50000000;omega⟩)) (fun x15=>?_)
   refine XJ<|Xg 11 (by kernel_rfl) (by kernel_rfl) rfl rfl rfl<|JE (vs:=[_,_,_,_,_,_,_,_]) rfl rfl rfl Jq rfl .here (.cons_cons _ (.cons_cons _ .slnil)) (fun _ h=>h.1.1.1.1) .h8 wR<|XJ<|Y4 ?_
   exact J0 ((b5,x15)) wN wG (fun F h9=>⟨⟨⟨h9.1.1.1.1.1.1,h9.1.1.1.1.1.2⟩,⟨h9.1.1.1.1.2.1,h9.1.1.1.1.2.2⟩⟩,⟨⟨h9.2.1.1,h9.2.1.2⟩,⟨h9.2.2.1,h9.2.2.2⟩⟩⟩)
 ·intro i
  simp only [ak,aw]
  refine QG ?_
  refine Kz [(4,_),(5,_)] [(34,.bool ((decide (n>0)&&(decide (n%2=0)&&(decide (E7 a.1.num<0)&&decide (E7 a.2.num>0))))))] wL ?_ ?_
  ·
   refine QB<|wA rfl<|QA (QU rfl rfl rfl)<|wA rfl ?_
   refine Qn (t:=18) rfl (fun hb18=>?_) (fun hb18=>?_)
   ·
    refine QL rfl rfl<|wA rfl<|QL rfl rfl<|QA (Kn rfl rfl (by omega) (by omega))<|QL rfl rfl<|QA (QU rfl rfl rfl)<|QA (Qi rfl rfl rfl)<|wA rfl ?_
    refine Qn (t:=23) rfl (fun hb23=>?_) (fun hb23=>?_)
    ·
     refine QL rfl rfl<|QA (QI rfl Zk Qe)<|QL rfl rfl<|QA (QJ (vs:=[_,_,_,_]) rfl Qe .u2 .h4 rfl)<|QL rfl rfl ?_
     refine QH rfl (fun w F hF ⟨⟨⟨h1,h2⟩,⟨h3,h4⟩⟩,⟨⟨k1,k2⟩,⟨k3,k4⟩⟩⟩=>G6 hF ⟨by assumption,by assumption⟩) (fun _=>?_)
     refine QL rfl rfl<|QA (QU rfl rfl rfl)<|QA (Qi rfl rfl rfl)<|wA rfl ?_
     refine Qn (t:=29) rfl (fun hb29=>?_) (fun hb29=>?_)
     ·
      refine QL rfl rfl<|QA (QI rfl Zw Qe)<|QL rfl rfl<|QA (QJ (vs:=[_,_,_,_]) rfl Qe .u2 (.skip (.skip (.skip (.skip .h4)))) rfl)<|QL rfl rfl ?_
      refine QH rfl (fun w F hF ⟨⟨⟨⟨h1,h2⟩,⟨h3,h4⟩⟩,⟨⟨k1,k2⟩,⟨k3,k4⟩⟩⟩,_⟩=>G6 hF ⟨by assumption,by assumption⟩) (fun _=>?_)
      refine QL rfl rfl<|QA (QU rfl rfl rfl)<|QA (Qi rfl rfl rfl)<|QE ?_
      exact ZI ⟨rfl,rfl,(congrArg (fun b=>some (ag b)) (by rw [ae];simp_all<;>(intros;omega))),trivial⟩ wG (fun _ h=>h.1.1)
     ·
      refine QN rfl rfl rfl<|QN rfl rfl rfl<|QN rfl rfl rfl<|QN rfl rfl rfl<|QA (Qh rfl rfl rfl)<|QE ?_
      exact ZI ⟨rfl,rfl,(congrArg (fun b=>some (ag b)) (by rw [ae];simp_all<;>(intros;omega))),trivial⟩ wG (fun _ h=>h.1)
    ·
     refine QN rfl rfl rfl<|QN rfl rfl rfl<|QN rfl rfl rfl<|QN rfl rfl rfl<|QA (Qh rfl rfl rfl)<|wA rfl<|QN rfl rfl rfl<|QN rfl rfl rfl<|QN rfl rfl rfl<|QN rfl rfl rfl<|QA (Qh rfl rfl rfl)<|QE ?_
     exact ZI ⟨rfl,rfl,(congrArg (fun b=>some (ag b)) (by rw [ae];simp_all<;>(intros;omega))),trivial⟩ wG (fun _ h=>h)
   ·
    refine QN rfl rfl rfl<|QN rfl rfl rfl<|QN rfl rfl rfl<|QA (Qh rfl rfl rfl)<|wA rfl<|QN rfl rfl rfl<|QN rfl rfl rfl<|QN rfl rfl rfl<|QN rfl rfl rfl<|QA (Qh rfl rfl rfl)<|wA rfl<|QN rfl rfl rfl<|QN rfl rfl rfl<|QN rfl rfl rfl<|QN rfl rfl rfl<|QA (Qh rfl rfl rfl)<|QE ?_
    exact ZI ⟨rfl,rfl,(congrArg (fun b=>some (ag b)) (by rw [ae];simp_all<;>(intros;omega))),trivial⟩ wG (fun _ h=>h)
  ·
   simp only [ak,aw]
   refine QQ rfl (fun hc=>?_) (fun hc=>?_)
   ·
    refine QB ?_
    refine QH rfl (fun w F hF h9=>po hF (by omega) (by omega)) (fun x35=>?_)
    refine QA (QI rfl Zk Qe)<|QR (vs:=[_,_,_,_]) rfl rfl rfl Qe rfl .here .h4 wN<|wC<|wE<|QA (QJ (vs:=[_,_,_,_,_,_,_,_]) rfl Jq .here .h8 rfl)<|QR (vs:=[_,_,_,_,_,_,_,_]) rfl rfl rfl Jq rfl .u1 .h8 wR<|wC<|QS ?_
    exact QP (⟨x35,i.2.hi⟩) rfl (.Jd (c:=[_,_,_,_,_,_,_,_]) rfl Jq .u1 .nil) (rfl) (fun F h9=>by have e:(Vo a n)=(0,(YH (a.1^n.toNat) [a.2^n.toNat]).2):=(by unfold Vo;rw [if_pos hc]);rw [e];exact⟨⟨h9.2.1,h9.2.2⟩,⟨h9.1.2.2.1,h9.1.2.2.2⟩⟩)
   ·
    refine QO<|QC<|wE<|QA (QJ (vs:=[_,_,_,_,_,_,_,_]) rfl Jq .here .h8 rfl)<|QR (vs:=[_,_,_,_,_,_,_,_]) rfl rfl rfl Jq rfl .u1 .h8 wR<|wC<|QS ?_
    exact QP (i.2) rfl (.Jd (c:=[_,_,_,_,_,_,_,_]) rfl Jq .u1 .nil) (rfl) (fun F h9=>by have e:(Vo a n)=(YH (a.1^n.toNat) [a.2^n.toNat]):=(by unfold Vo;rw [if_neg (by rw [hc];decide)]);rw [e];exact⟨⟨h9.2.1.1,h9.2.1.2⟩,⟨h9.2.2.1,h9.2.2.2⟩⟩)
def MA (n:Int):Int:=if n<0∨n>12 then 3 else 0
theorem qi {n:Int} (h:MA n=0):0≤n∧n≤12:=by unfold MA at h;split at h<;>omega
def IW (lo hi:List UInt8) (n:Int):(List UInt8×List UInt8)×Int:=if Ql [Jm lo hi,MA n]=0 then V4 (Vo (Jj lo,Jj hi) n) else(([],[]),Ql [Jm lo hi,MA n])
theorem L2:JL 0≤1:=by decide
theorem jA {a:Rat×Rat} {n:Int} (hn:0≤n∧n≤12) (h:JL a.1≤1000000∧JL a.2≤1000000):JL (Vo a n).1≤12000001∧JL (Vo a n).2≤12000001:=by
 have p1:=WT a.1 n.toNat
 have p2:=WT a.2 n.toNat
 have m1:n.toNat*JL a.1≤12*1000000:=ei (by omega) h.1
 have m2:n.toNat*JL a.2≤12*1000000:=ei (by omega) h.2
 have ha:=HK (k:=12000001) [a.2^n.toNat] (a.1^n.toNat,a.1^n.toNat) ⟨by show JL (a.1^n.toNat)≤_;omega,by show JL (a.1^n.toNat)≤_;omega⟩ (fun x hx=>by simp only [az] at hx;subst hx;omega)
 unfold Vo
 refine⟨?_,ha.2⟩
 show JL (if _ then _ else _)≤_
 split
 ·have:=L2;omega
 ·exact ha.1
theorem TT {w:ar} {F:Gs} {lo hi:List UInt8} {n:Int} (hF:Fits F w) (hG:JB F) (hl:lo.length≤1000000∧hi.length≤1000000):QZ Tryz.prog 48 [.agg #[tx lo,tx hi],.int .i64 n] w F (.tuple #[.agg #[tx (IW lo hi n).1.1,tx (IW lo hi n).1.2],.int .i64 (IW lo hi n).2]):=by
 refine QT.intro (G:=fun F=>JB F) Tryz.func48 rfl (by rfl) rfl rfl hF (fun F' hF'=>hG.le hF')<|wE<|Q2 rfl (vs:=[_,_]) rfl (fun b2=>Qg Zy (fun b4=>wD rfl<|QG ?_))
 refine Kz [(1,_),(2,_),(4,_)] [(6,.int .i64 (Ql [Jm lo hi,MA n]))] wM ?_ ?_
 ·
  refine QB<|QA (QJ (vs:=[_,_]) rfl JU .u1 .h2 rfl)<|QH rfl (fun w F hF hGl=>Yr hF hGl (hl)) (fun _=>wA rfl<|QA (QU rfl rfl rfl)<|wA rfl ?_)
  refine Qn (t:=11) rfl (fun hb11=>?_) (fun hb11=>?_)
  ·
   refine QN rfl rfl rfl<|QN rfl rfl rfl<|QA (Qi rfl rfl rfl)<|QH rfl (fun w F hF h9=>Z1 hF ) (fun _=>QW rfl (Q8 Zn) Y7 BO rfl rfl (fun b16=>QH rfl (fun w F hF h9=>Zz hF (Q6.of (cs:=ee Qy [Jm lo hi,(if(true:Bool)=true then 3 else 0)]) h9.2 rfl) (by decide)) (fun _=>wB rfl<|QE ?_)))
   exact ZI ⟨rfl,rfl,rfl,(congrArg (fun z:Int=>some (aa .i64 z)) (by have h:=wI hb11;have e:MA n=3:=(by unfold MA;rw [if_pos (.inl h)]);rw [e];rfl)),trivial⟩ wG (fun _ h=>h.1.1.1.1)
  ·
   refine QL rfl rfl<|wA rfl<|QL rfl rfl<|QA (QU rfl rfl rfl)<|QA (Qh rfl rfl rfl)<|QH rfl (fun w F hF h9=>Z1 hF ) (fun _=>QW rfl (Q8 Zn) Y7 BO rfl rfl (fun b16=>QH rfl (fun w F hF h9=>Zz hF (Q6.of (cs:=ee Qy [Jm lo hi,(if(decide (n>12))=true then 3 else 0)]) h9.2 rfl) (by decide)) (fun _=>wB rfl<|QE ?_)))
   exact ZI ⟨rfl,rfl,rfl,(congrArg (fun z:Int=>some (aa .i64 z)) (by have h:=wJ hb11;have e:MA n=(if(decide (n>12))=true then 3 else 0):=(by unfold MA;by_cases g:n>12<;>simp [g,h]);rw [e])),trivial⟩ wG (fun _ h=>h.1.1.1.1)
 ·
  simp only [ak,aw]
  refine wF rfl<|QA (QU rfl rfl rfl)<|QE<|QC ?_
  refine QQ rfl (fun hc=>?_) (fun hc=>?_)
  ·
   have he:¬ Ql [Jm lo hi,MA n]=0:=by simpa using hc
   refine wE<|QA (Q7 rfl Y8 Zy .nil)<|wA rfl<|QR (vs:=[_,_]) rfl rfl rfl JU rfl .here .h2 wL<|wD rfl<|QS ?_
   exact Ja (()) rfl (.Jd (c:=[_,_]) rfl JU .here (.tmp rfl .nil)) (by unfold IW;rw [if_neg he];rfl) (fun F hGl=>trivial)
  ·
   have he:Ql [Jm lo hi,MA n]=0:=by simpa using hc
   obtain ⟨e1,e2⟩:=YN he
   obtain ⟨k1,k2,_⟩:=YT e1
   have hn:=qi e2
   have s1:=XE k1
   have s2:=XE k2
   have hps:=jA (a:=(Jj lo,Jj hi)) hn ⟨by show JL (Jj lo)≤_;omega,by show JL (Jj hi)≤_;omega⟩
   refine QO<|QC<|wE<|QA (QJ (vs:=[_,_]) rfl JU .u1 .h2 rfl)<|QH rfl (fun w F hF hGl=>KK hF hGl (k1) (k2) (hl)) (fun x23=>wA rfl<|QH rfl (fun w F hF h9=>TB hF ⟨⟨h9.2.1.1,h9.2.1.2⟩,⟨h9.2.2.1,h9.2.2.2⟩⟩ hn ⟨aU s1 (by decide),aU s2 (by decide)⟩) (fun x25=>QH rfl (fun w F hF h9=>E8 hF h9.1.1 (r:=Vo (Jj lo,Jj hi) n) ⟨⟨h9.2.1.1,h9.2.1.2⟩,⟨h9.2.2.1,h9.2.2.2⟩⟩ ⟨by omega,by omega⟩) (fun _=>QA (QM rfl rfl)<|QA (QM rfl rfl)<|QR (vs:=[_,_]) rfl rfl rfl JU rfl .here .h2 wL<|wD rfl<|QS ?_)))
   exact Ja (()) rfl (.Jd (c:=[_,_]) rfl JU .here (.tmp rfl .nil)) (by unfold IW;rw [if_pos he];rfl) (fun F h9=>trivial)
end Go.Proofs.YtknegjaeoffnbaaGreatDoor
namespace Ig
def Zv:List Int→List Int→Bool
 |x::a,y::b=>decide (y<x)||(decide (x=y)&&Zv a b)
 |_::_,[]=>true
 |[],_=>false
def before (a b:List Int):Bool:=decide (b.sum<a.sum)||(decide (a.sum=b.sum)&&Zv a b)
theorem Bs:∀ a:List Int,Zv a a=false
 |[]=>rfl
 |x::a=>by simp [Zv,Bs a]
theorem EM:∀ {a b c:List Int},Zv a b=true→Zv b c=true→Zv a c=true
 |[],_,_,h,_=>by simp [Zv] at h
 |_::_,[],_,_,h=>by simp [Zv] at h
 |_::_,_::_,[],_,_=>rfl
 |x::a,y::b,z::c,h,k=>by
  simp only [Zv,bK,ay,decide_eq_true_eq] at h k ⊢
  rcases h with h | ⟨h,h'⟩<;>rcases k with k | ⟨k,k'⟩
  ·left;omega
  ·left;omega
  ·left;omega
  ·right;exact⟨by omega,EM h' k'⟩
theorem RA:∀ a b:List Int,a=b∨Zv a b=true∨Zv b a=true
 |[],[]=>.inl rfl
 |[],_::_=>.inr (.inr rfl)
 |_::_,[]=>.inr (.inl rfl)
 |x::a,y::b=>by
  simp only [Zv,bK,ay,decide_eq_true_eq,eU]
  rcases eB x y with h | h | h
  ·right;right;left;omega
  ·rcases RA a b with k | k | k
   ·left;exact⟨h,k⟩
   ·right;left;right;exact⟨h,k⟩
   ·right;right;right;exact⟨h.symm,k⟩
  ·right;left;left;omega
theorem before_irrefl (a:List Int):before a a=false:=by simp [before,Bs]
theorem before_trans {a b c:List Int} (h:before a b=true) (k:before b c=true):before a c=true:=by
 simp only [before,bK,ay,decide_eq_true_eq] at h k ⊢
 rcases h with h | ⟨h,h'⟩<;>rcases k with k | ⟨k,k'⟩
 ·left;omega
 ·left;omega
 ·left;omega
 ·right;exact⟨by omega,EM h' k'⟩
theorem KN (a b:List Int):a=b∨before a b=true∨before b a=true:=by
 simp only [before,bK,ay,decide_eq_true_eq]
 rcases eB a.sum b.sum with h | h | h
 ·right;right;left;exact h
 ·rcases RA a b with k | k | k
  ·left;exact k
  ·right;left;right;exact⟨h,k⟩
  ·right;right;right;exact⟨h.symm,k⟩
 ·right;left;left;exact h
theorem LH {a b:List Int} (h:before a b=true):a≠b:=by
 rintro rfl;rw [before_irrefl] at h;cases h
theorem j2 {a b:List Int} (h:before a b=true):before b a=false:=by
 cases hb:before b a with
 |false=>rfl
 |true=>have:=before_trans h hb;rw [before_irrefl] at this;cases this
abbrev Tm:=Rat×List Int
def Jh:List Tm→List Int→Rat
 |[],_=>0
 |t::p,k=>(if t.2=k then t.1 else 0)+Jh p k
theorem Z7 (p q:List Tm) (k:List Int):Jh (p++q) k=Jh p k+Jh q k:=by
 induction p with
 |nil=>simp [Jh,aP]
 |cons t p ih=>simp only [ak,Jh,ih,aZ]
structure Canon (p:List Tm):Prop where
 C8:p.Pairwise (fun x y=>before x.2 y.2=true)
 nz:∀ t∈p,t.1≠0
theorem Canon.nil:Canon []:=⟨fD,fun _ h=>by cases h⟩
theorem Canon.tail {t:Tm} {p:List Tm} (h:Canon (t::p)):Canon p:=⟨(List.pairwise_cons.1 h.C8).2,fun x hx=>h.nz x (bG _ hx)⟩
theorem Y6 {p:List Tm} {k:List Int} (h:∀ t∈p,t.2≠k):Jh p k=0:=by
 induction p with
 |nil=>rfl
 |cons t p ih=>rw [Jh,if_neg (h t (by simp)),ih (fun x hx=>h x (by simp [hx])),aP]
theorem Canon.head {t:Tm} {p:List Tm} (h:Canon (t::p)):Jh (t::p) t.2=t.1:=by
 rw [Jh,if_pos rfl,Y6,aI]
 intro x hx e
 have:=(List.pairwise_cons.1 h.C8).1 x hx
 rw [e,before_irrefl] at this;cases this
theorem Canon.after {t:Tm} {p:List Tm} (h:Canon (t::p)):Jh p t.2=0:=Y6 fun x hx e=>by
 have:=(List.pairwise_cons.1 h.C8).1 x hx
 rw [e,before_irrefl] at this;cases this
theorem Canon.early {t:Tm} {p:List Tm} (h:Canon (t::p)) {k:List Int} (hk:before k t.2=true):Jh (t::p) k=0:=Y6 fun x hx e=>by
 rcases List.mem_cons.1 hx with rfl | hx
 ·rw [e,before_irrefl] at hk;cases hk
 ·have:=before_trans hk ((List.pairwise_cons.1 h.C8).1 x hx)
  rw [e,before_irrefl] at this;cases this
theorem Dm:∀ {p q:List Tm},Canon p→Canon q→(∀ k,Jh p k=Jh q k)→p=q
 |[],[],_,_,_=>rfl
 |[],y::q,_,hq,h=>by
  have:=h y.2
  rw [hq.head] at this
  exact absurd this.symm (hq.nz y (by simp))
 |x::p,[],hp,_,h=>by
  have:=h x.2
  rw [hp.head] at this
  exact absurd this (hp.nz x (by simp))
 |x::p,y::q,hp,hq,h=>by
  rcases KN x.2 y.2 with e | e | e
  ·have h1:=h x.2
   rw [hp.head] at h1
   have h2:=hq.head
   rw [← e] at h2
   rw [h2] at h1
   have hxy:x=y:=Prod.ext h1 e
   subst hxy
   congr 1
   refine Dm hp.tail hq.tail (fun k=>?_)
   have h3:=h k
   simp only [Jh] at h3
   generalize Jh p k=a at *
   generalize Jh q k=b at *
   grind
  ·have h1:=h x.2
   rw [hp.head,hq.early e] at h1
   exact absurd h1 (hp.nz x (by simp))
  ·have h1:=h y.2
   rw [hq.head,hp.early e] at h1
   exact absurd h1.symm (hq.nz y (by simp))
def ZC:List Tm→Tm→List Tm
 |[],t=>if t.1=0 then [] else [t]
 |x::p,t=>if before x.2 t.2=true then x::ZC p t else if x.2=t.2 then(if x.1+t.1=0 then p else(x.1+t.1,t.2)::p) else if t.1=0 then x::p else t::x::p
theorem Au (p:List Tm) (t:Tm) (k:List Int):Jh (ZC p t) k=Jh p k+(if t.2=k then t.1 else 0):=by
 induction p with
 |nil =>
  unfold ZC
  split
  ·rename_i h;rw [h];simp [Jh,aI]
  ·simp [Jh,aP,aI]
 |cons x p ih =>
  unfold ZC
  split
  ·simp only [Jh,ih,aZ]
  ·split
   ·rename_i h
    split
    ·rename_i h0
     simp only [Jh]
     rw [h]
     by_cases hk:t.2=k
     ·simp only [hk,if_true]
      rw [aZ,bW (Jh p k),← aZ,h0,aP]
     ·simp only [hk,if_false,aP,aI]
    ·simp only [Jh]
     rw [h]
     by_cases hk:t.2=k
     ·simp only [hk,if_true]
      rw [aZ,aZ,bW t.1]
     ·simp only [hk,if_false,aP,aI]
   ·split
    ·rename_i h0;rw [h0];simp [aI]
    ·simp only [Jh];rw [bW]
theorem De {p:List Tm} {t x:Tm} (h:x∈ZC p t):x∈p∨x.2=t.2:=by
 induction p with
 |nil =>
  unfold ZC at h
  split at h
  ·cases h
  ·simp at h;subst h;exact .inr rfl
 |cons y p ih =>
  unfold ZC at h
  split at h
  ·rcases List.mem_cons.1 h with rfl | h
   ·exact .inl (by simp)
   ·rcases ih h with h | h
    ·exact .inl (by simp [h])
    ·exact .inr h
  ·split at h
   ·split at h
    ·exact .inl (by simp [h])
    ·rcases List.mem_cons.1 h with rfl | h
     ·exact .inr rfl
     ·exact .inl (by simp [h])
   ·split at h
    ·exact .inl h
    ·rcases List.mem_cons.1 h with rfl | h
     ·exact .inr rfl
     ·exact .inl h
theorem Canon.ZC {p:List Tm} (h:Canon p) (t:Tm):Canon (Ig.ZC p t):=by
 induction p with
 |nil =>
  unfold Ig.ZC
  split
  ·exact Canon.nil
  ·rename_i h0;exact⟨List.pairwise_singleton _ _,fun x hx=>by simp at hx;subst hx;exact h0⟩
 |cons x p ih =>
  have hs:=List.pairwise_cons.1 h.C8
  unfold Ig.ZC
  split
  ·rename_i hb
   have hc:=ih h.tail
   refine⟨List.pairwise_cons.2 ⟨fun y hy=>?_,hc.C8⟩,fun y hy=>?_⟩
   ·rcases De hy with hy | hy
    ·exact hs.1 y hy
    ·rw [hy];exact hb
   ·rcases List.mem_cons.1 hy with rfl | hy
    ·exact h.nz _ (by simp)
    ·exact hc.nz y hy
  ·rename_i hb
   split
   ·rename_i he
    split
    ·exact h.tail
    ·rename_i h0
     refine⟨List.pairwise_cons.2 ⟨fun y hy=>?_,hs.2⟩,fun y hy=>?_⟩
     ·have:=hs.1 y hy;rw [he] at this;exact this
     ·rcases List.mem_cons.1 hy with rfl | hy
      ·exact h0
      ·exact h.nz y (by simp [hy])
   ·rename_i he
    split
    ·exact h
    ·rename_i h0
     have hb':before t.2 x.2=true:=by
      rcases KN x.2 t.2 with q | q | q
      ·exact absurd q he
      ·exact absurd q hb
      ·exact q
     refine⟨List.pairwise_cons.2 ⟨fun y hy=>?_,h.C8⟩,fun y hy=>?_⟩
     ·rcases List.mem_cons.1 hy with rfl | hy
      ·exact hb'
      ·exact before_trans hb' (hs.1 y hy)
     ·rcases List.mem_cons.1 hy with rfl | hy
      ·exact h0
      ·exact h.nz y hy
def Jp (l:List Tm):List Tm:=l.foldl ZC []
theorem Nh (l:List Tm):∀ {p:List Tm},Canon p→Canon (l.foldl ZC p)∧∀ k,Jh (l.foldl ZC p) k=Jh p k+Jh l k:=by
 induction l with
 |nil=>intro p h;exact⟨h,fun k=>by simp [Jh,aI]⟩
 |cons t l ih =>
  intro p h
  obtain ⟨h1,h2⟩:=ih (h.ZC t)
  exact⟨h1,fun k=>by rw [List.foldl_cons,h2,Au,Jh,aZ]⟩
theorem ZF (l:List Tm):Canon (Jp l):=(Nh l Canon.nil).1
theorem KM (l:List Tm) (k:List Int):Jh (Jp l) k=Jh l k:=by
 rw [Jp,(Nh l Canon.nil).2,Jh,aP]
def KB (p q:List Tm):Prop:=∀ k,Jh p k=Jh q k
theorem KB.refl (p:List Tm):KB p p:=fun _=>rfl
theorem KB.symm {p q:List Tm} (h:KB p q):KB q p:=fun k=>(h k).symm
theorem KB.trans {p q r:List Tm} (h:KB p q) (h':KB q r):KB p r:=fun k=>(h k).trans (h' k)
theorem KB.append {p q p' q':List Tm} (h:KB p p') (h':KB q q'):KB (p++q) (p'++q'):=fun k=>by rw [Z7,Z7,h,h']
theorem Te {p l:List Tm} (hp:Canon p) (h:KB p l):p=Jp l:=Dm hp (ZF l) fun k=>by rw [KM,h]
theorem WE {p:List Tm} (hp:Canon p):Jp p=p:=(Te hp (KB.refl p)).symm
theorem KB.perm {l m:List Tm} (h:l.Perm m):KB l m:=by
 intro k
 induction h with
 |nil=>rfl
 |cons x _ ih=>rw [Jh,Jh,ih]
 |swap x y l=>simp only [Jh];rw [← aZ,← aZ];congr 1;exact bW _ _
 |trans _ _ h1 h2=>exact h1.trans h2
theorem KB.cons {p q:List Tm} (t:Tm) (h:KB p q):KB (t::p) (t::q):=fun k=>by rw [Jh,Jh,h]
theorem eqv_filter (p:List Tm):KB (p.filter (fun t=>decide (t.1≠0))) p:=by
 induction p with
 |nil=>exact KB.refl _
 |cons t p ih =>
  rw [List.filter_cons]
  split
  ·exact ih.cons t
  ·rename_i h
   have h0:t.1=0:=by simpa using h
   intro k
   rw [Jh,h0,ih k];simp [aP]
def J4 (a b:List Int):List Int:=List.zipWith (·+·) a b
theorem KA {a b:List Int} (h:a.length=b.length):(J4 a b).length=a.length:=by simp [J4,h]
def U9 (k a:List Int):List Int:=List.zipWith (· - ·) k a
theorem EZ:∀ {a b k:List Int},a.length=b.length→(J4 a b=k↔k.length=a.length∧b=U9 k a)
 |[],[],k,_=>by cases k<;>simp [J4,U9]
 |x::a,y::b,[],_=>by simp [J4]
 |x::a,y::b,z::k,h=>by
  have ih:=EZ (a:=a) (b:=b) (k:=k) (by simpa using h)
  simp only [J4,U9,List.zipWith_cons_cons,eU,ax,Nat.add_right_cancel_iff] at ih ⊢
  rw [ih]
  constructor
  ·rintro ⟨h1,h2,h3⟩;exact⟨h2,by omega,h3⟩
  ·rintro ⟨h1,h2,h3⟩;exact⟨by omega,h1,h3⟩
def Jw (s:Tm) (q:List Tm):List Tm:=q.map fun t=>(s.1*t.1,J4 s.2 t.2)
def JM (p q:List Tm):List Tm:=p.flatMap fun s=>Jw s q
def Zm (n:Nat) (p:List Tm):Prop:=∀ t∈p,t.2.length=n
theorem Zm.append {n:Nat} {p q:List Tm} (h:Zm n p) (k:Zm n q):Zm n (p++q):=fun t ht=>by
 rcases List.mem_append.1 ht with ht | ht
 ·exact h t ht
 ·exact k t ht
theorem Zm.tail {n:Nat} {t:Tm} {p:List Tm} (h:Zm n (t::p)):Zm n p:=fun x hx=>h x (by simp [hx])
theorem Zm.Jw {n:Nat} {s:Tm} {q:List Tm} (hs:s.2.length=n) (h:Zm n q):Zm n (Ig.Jw s q):=fun t ht=>by
 obtain ⟨u,hu,rfl⟩:=List.mem_map.1 ht
 show(J4 s.2 u.2).length=n
 rw [KA (by rw [hs,h u hu]),hs]
theorem Zm.JM {n:Nat} {p q:List Tm} (h:Zm n p) (k:Zm n q):Zm n (Ig.JM p q):=fun t ht=>by
 obtain ⟨s,hs,ht⟩:=List.mem_flatMap.1 ht
 exact k.Jw (h s hs) t ht
theorem Zm.ZC {n:Nat} {p:List Tm} {t:Tm} (h:Zm n p) (ht:t.2.length=n):Zm n (Ig.ZC p t):=fun x hx=>by
 rcases De hx with hx | hx
 ·exact h x hx
 ·rw [hx];exact ht
theorem Zm.Jp {n:Nat} {l:List Tm} (h:Zm n l):Zm n (Ig.Jp l):=by
 have:∀ (l p:List Tm),Zm n p→Zm n l→Zm n (l.foldl Ig.ZC p):=by
  intro l
  induction l with
  |nil=>intro p hp _;exact hp
  |cons t l ih=>intro p hp hl;exact ih _ (hp.ZC (hl t (by simp))) hl.tail
 exact this l [] (fun _ h=>by cases h) h
theorem EX {n:Nat} {s:Tm} {q:List Tm} (hs:s.2.length=n) (h:Zm n q) (k:List Int):Jh (Jw s q) k=if k.length=n then s.1*Jh q (U9 k s.2) else 0:=by
 induction q with
 |nil=>simp [Jw,Jh,fB]
 |cons t q ih =>
  have ht:t.2.length=n:=h t (by simp)
  have hk:=EZ (a:=s.2) (b:=t.2) (k:=k) (by rw [hs,ht])
  rw [Jw,aH,Jh]
  show(if J4 s.2 t.2=k then s.1*t.1 else 0)+Jh (Jw s q) k=_
  rw [ih h.tail]
  by_cases hl:k.length=n
  ·rw [if_pos hl,if_pos hl,Jh,Rat.mul_add]
   congr 1
   by_cases e:J4 s.2 t.2=k
   ·rw [if_pos e,if_pos (hk.1 e).2]
   ·rw [if_neg e,if_neg (fun q=>e (hk.2 ⟨by rw [hl,hs],q⟩)),fB]
  ·rw [if_neg hl,if_neg hl,if_neg (fun e=>hl (by rw [(hk.1 e).1,hs])),aP]
theorem X2 (s:Tm) (p q:List Tm):JM (s::p) q=Jw s q++JM p q:=by simp [JM]
theorem Wv (s:Tm) (p q:List Tm):Jw s (p++q)=Jw s p++Jw s q:=by simp [Jw]
theorem Wa (p p' q:List Tm):JM (p++p') q=JM p q++JM p' q:=by simp [JM]
end Ig
namespace Go.Proofs.YtknegjaeoffnbaaGreatDoor
open Go.RowKit Ig
section
variable [Dr]
def PW (l:List Int):Prop:=(∀ x∈l,0≤x∧x≤1000000)∧l.length≤1000
theorem PW.el {l:List Int} (h:PW l) {i:Nat} (hi:i<l.length):0≤Qa l i∧Qa l i≤1000000:=by rw [Xy hi];exact h.1 _ (JK hi)
theorem Hn {l:List Int} {i:Nat} (hi:i<l.length):(l.take (i+1)).sum=(l.take i).sum+Qa l i:=by
 rw [X7 hi,fg,Xy hi];simp
theorem PW.sum {l:List Int} (h:PW l):∀ i,i≤l.length→0≤(l.take i).sum∧(l.take i).sum≤i*1000000:=by
 intro i
 induction i with
 |zero=>intro _;simp
 |succ i ih =>
  intro hi
  have h1:=ih (by omega)
  have h2:=h.el (i:=i) (by omega)
  rw [Hn (by omega)]
  omega
theorem E9 (l:List Int):Ql l=Ql (l.map fun x=>x):=by rw [List.map_id']
def Un:List Int→List Int→Int
 |[],[]=>0
 |[],_::_=>-1
 |_::_,[]=>1
 |x::a,y::b=>if Zd x y≠0 then Zd x y else Un a b
theorem Rn:∀ a b:List Int,(Un b a<0↔Zv a b=true)∧(Un b a=0↔a=b)
 |[],[]=>by simp [Un,Zv]
 |[],_::_=>by simp [Un,Zv]
 |_::_,[]=>by simp [Un,Zv]
 |x::a,y::b=>by
  have ih:=Rn a b
  unfold Un Zv Zd
  by_cases h1:y<x
  ·simp [h1];omega
  ·by_cases h2:y=x
   ·subst h2;simp [ih.1,ih.2]
   ·have h3:¬ x=y:=fun e=>h2 e.symm
    simp [h1,h2,h3]
theorem MK (x y:Int):fq x y=Zd x y:=by
 unfold fq Zd
 by_cases h1:x<y
 ·simp [h1]
 ·by_cases h2:x=y
  ·subst h2;simp
  ·have h3:y<x:=by omega
   simp [h1,h2,h3]
def VH (a b:List Int):Int:=Ql [Zd b.sum a.sum,Un b a]
theorem K9 (a b:List Int):before a b=decide (VH a b<0):=by
 obtain ⟨h1,h2⟩:=Rn a b
 unfold before VH
 rw [ae,decide_eq_true_iff]
 simp only [Ql]
 by_cases h:b.sum<a.sum
 ·have e:Zd b.sum a.sum = -1:=by unfold Zd;rw [if_pos h]
  rw [e];simp [h]
 ·by_cases g:b.sum=a.sum
  ·have e:Zd b.sum a.sum=0:=by unfold Zd;rw [if_neg h,if_pos g]
   rw [e]
   by_cases k:Un b a=0
   ·have hf:Zv a b=false:=by cases hl:Zv a b with
     |false=>rfl
     |true=>have:=h1.2 hl;omega
    simp [k,g,hf]
   ·simp [k,g,h1]
  ·have e:Zd b.sum a.sum=1:=by unfold Zd;rw [if_neg h,if_neg g]
   have g2:¬ a.sum=b.sum:=fun e=>g e.symm
   rw [e];simp [h,g2]
theorem kL {a b:List Int} (h:VH a b=0):a=b:=by
 rcases KN a b with q | q | q
 ·exact q
 ·rw [K9] at q;have:=wI q;omega
 ·
  obtain ⟨h1,h2⟩:=Rn a b
  unfold VH at h
  simp only [Ql] at h
  split at h
  ·split at h
   ·exact h2.1 (by assumption)
   ·exact absurd h (by assumption)
  ·exact absurd h (by assumption)
def Yu (l:List Int):List UInt8:=l.flatMap fun x=>fp x++[32]
theorem WI (x:Int) (l:List Int):Yu (x::l)=X1 x++32::Yu l:=by unfold Yu;rw [bQ];simp [X1]
theorem Bt:∀ {a b:List Int},Yu a=Yu b→a=b
 |[],[],_=>rfl
 |[],y::b,h=>by rw [WI] at h;simp [Yu] at h
 |x::a,[],h=>by rw [WI] at h;simp [Yu] at h
 |x::a,y::b,h=>by
  rw [WI,WI] at h
  have h1:=DB (c:=32) (a:=X1 x) (b:=Yu a) (Bl x (by decide) (by decide))
  have h2:=DB (c:=32) (a:=X1 y) (b:=Yu b) (Bl y (by decide) (by decide))
  rw [h,h2] at h1
  simp only [Prod.mk.injEq,and_true] at h1
  have e:x=y:=by rw [← YS x,← YS y,h1.1]
  rw [e,Bt h1.2.symm]
theorem Da {w:ar} {F:Gs} {r:Sr} {l:List Int} (hF:Fits F w) (hR:JR F r l) (hp:PW l):QZ Tryz.prog 217 [r.v] w F (.int .i64 l.sum):=by
 obtain ⟨q,n,c⟩:=r
 have hln:=hR.2.1
 dsimp only [Sr.v] at hln ⊢
 have hl1:=hp.2
 refine QT.intro (G:=fun F=>JR F ⟨q,n,c⟩ l) Tryz.func217 rfl (by rfl) rfl rfl hF (fun F' hF'=>hR.le hF')<|wE<|wD rfl<|wE<|wD rfl<|QG<|wF rfl<|QA (Qj rfl Qf)<|wA rfl<|wC<|QX<|Zc (ι:={i:Nat // i≤l.length}) [(6,_),(7,_)] (fun i=>[(3,.int .i64 ((l.take i.1).sum)),(8,.int .i64 ((i.1:Nat):Int))]) (fun i=>l.length - i.1) (⟨0,aF _⟩) wL wL (fun i=>?_)
 simp only [ak,aw]
 have hi:=i.2
 have hs:=hp.sum i.1 hi
 refine wE<|QA (QU rfl rfl rfl)<|wC<|QG ?_
 refine QQ rfl (fun hc=>?_) (fun hc=>?_)
 ·
  have hlt:i.1<l.length:=by have:=wI hc;omega
  have he:=hp.el hlt
  refine QO<|QC<|QG<|QX<|wE<|QA (JH (n:=n) (i.1) (fun F hR=>(hR).1) rfl rfl Qf Qp (by omega))<|QA (JQ (n:=n) ((i.1)*1) (fun F hR=>(hR).1) (by omega) rfl Qp (JJ (o:=l) (by omega)))<|wD rfl<|QB<|wA rfl<|wA rfl<|QA (Qs rfl rfl (by omega))<|wB rfl<|QE<|Qk<|QC<|QB<|QA (Qs rfl rfl (by omega))<|wA rfl<|QE ?_
  exact Qo (⟨i.1+1,hlt⟩) (by show l.length - (i.1+1)<l.length - i.1;omega) ⟨rfl,rfl,(congrArg (fun z:Int=>some (aa .i64 z)) (Hn hlt).symm),rfl,trivial⟩ wG (fun F h=>h)
 ·
  have hge:i.1=l.length:=by have:=wJ hc;omega
  refine Qz ?_
  repeat (first | refine Qb ?_ | refine QV (by rfl) ?_)
  refine Qc<|QC<|wF rfl<|wD rfl<|QS ?_
  exact wH rfl rfl (congrArg (aa .i64) (by rw [ah (by omega)])) (fun F hR=>trivial)
theorem jE {w:ar} {F:Gs} {q:Option Addr} {n c:Nat} {l:List Int} (hF:Fits F w) (hR:Q6 F q n 1 (l.map Qy)) (hn:n≤1000000000):QZ Tryz.prog 215 [.slice q n c] w F (.int .i64 (Ql l)):=by
 have hln:l.length=n:=by have:=hR.1;simpa using this
 have em:l=l.map (fun x=>x):=by simp
 refine QT.intro (G:=fun F=>Q6 F q n 1 (l.map Qy)) Tryz.func215 rfl (by rfl) rfl rfl hF (fun F' hF'=>hR.le hF')<|wE<|wD rfl<|wE<|wD rfl<|QG<|wF rfl<|QA (Qj rfl Qf)<|wA rfl<|wC<|QX<|Zc (ι:=KF l (fun x=>x)) [(3,_),(6,_),(7,_)] (fun i=>[(8,.int .i64 ((i.i:Nat):Int))]) (fun i=>l.length - i.i) (KF.start _ _) wM wK (fun i=>?_)
 simp only [ak,aw]
 have hi:=i.le
 refine wE<|QA (QU rfl rfl rfl)<|wC<|QG ?_
 refine QQ rfl (fun hc=>?_) (fun hc=>?_)
 ·
  have hlt:i.i<l.length:=by have:=wI hc;omega
  refine QO<|QC<|QG<|QX<|wE<|QA (JH (n:=n) (i.i) (fun F hR=>hR) rfl rfl Qf Qp (by omega))<|QA (JQ (n:=n) ((i.i)*1) (fun F hR=>hR) (by omega) rfl Qp (JJ (o:=l) (by omega)))<|wD rfl<|wF rfl<|wA rfl<|QA (QU rfl rfl rfl)<|QE<|QC ?_
  refine QQ rfl (fun hc=>?_) (fun hc=>?_)
  ·
   refine wF rfl<|wD rfl<|QS ?_
   repeat (first | refine JC ?_ | refine Q5 ?_)
   exact wH rfl rfl (congrArg (aa .i64) (by rw [Xy hlt,E9 l];exact i.hit hlt (by rw [← Xy hlt];simpa using hc))) (fun F hR=>trivial)
  ·
   refine QO<|Qk<|QC<|QB<|QA (Qs rfl rfl (by omega))<|wA rfl<|QE ?_
   exact Qo (i.next hlt (by rw [← Xy hlt];simpa using hc)) (by show l.length - (i.i+1)<l.length - i.i;omega) wN wG (fun F h=>h)
 ·
  have hge:l.length≤i.i:=by have:=wJ hc;omega
  refine Qz ?_
  repeat (first | refine Qb ?_ | refine QV (by rfl) ?_)
  refine Qc<|QC<|wF rfl<|wD rfl<|QS ?_
  exact wH rfl rfl (congrArg (aa .i64) (by rw [E9 l];exact i.stop hge)) (fun F hR=>trivial)
structure kV (a b:List Int) where
 i:Nat
 la:i≤a.length
 lb:i≤b.length
 h:Un a b=Un (a.drop i) (b.drop i)
theorem kV.cons {a b:List Int} (s:kV a b) (ha:s.i<a.length) (hb:s.i<b.length):Un a b=if Zd (Qa a s.i) (Qa b s.i)≠0 then Zd (Qa a s.i) (Qa b s.i) else Un (a.drop (s.i+1)) (b.drop (s.i+1)):=by
 rw [s.h,XC ha,XC hb,Un]
theorem TD {w:ar} {F:Gs} {ra rb:Sr} {a b:List Int} (hF:Fits F w) (hA:JR F ra a) (hB:JR F rb b) (la:a.length≤1000000) (lb:b.length≤1000000):QZ Tryz.prog 218 [ra.v,rb.v] w F (.int .i64 (Un a b)):=by
 obtain ⟨q,n,c⟩:=ra
 obtain ⟨q',n',c'⟩:=rb
 have na:=hA.2.1
 have nb:=hB.2.1
 dsimp only [Sr.v] at na nb ⊢
 refine QT.intro (G:=fun F=>JR F ⟨q,n,c⟩ a∧JR F ⟨q',n',c'⟩ b) Tryz.func218 rfl (by rfl) rfl rfl hF (fun F' hF'=>⟨hA.le hF',hB.le hF'⟩)<|wE<|wD rfl<|QG<|wF rfl<|QA (Qj rfl Qf)<|wA rfl<|wC<|QX<|Zc (ι:=kV a b) [(0,_),(1,_),(9,_),(10,_)] (fun i=>[(11,.int .i64 ((i.i:Nat):Int))]) (fun i=>a.length - i.i) (⟨0,aF _,aF _,rfl⟩) wN wK (fun i=>?_)
 simp only [ak,aw]
 have hla:=i.la
 have hlb:=i.lb
 refine wE<|QA (QU rfl rfl rfl)<|wC<|QG ?_
 refine QQ rfl (fun hc=>?_) (fun hc=>?_)
 ·
  have hlt:i.i<a.length:=by have:=wI hc;omega
  refine QO<|QC<|QG<|QX<|wF rfl<|QA (JH (n:=n) (i.i) (fun F h9=>(h9.1).1) rfl rfl Qf Qp (by omega))<|QA (JQ (n:=n) ((i.i)*1) (fun F h9=>(h9.1).1) (by omega) rfl Qp (JJ (o:=a) (by omega)))<|wB rfl<|wD rfl<|QG<|wF rfl<|wA rfl<|QA (Qj rfl Qf)<|QA (QU rfl rfl rfl)<|QE<|QC ?_
  refine QQ rfl (fun hc=>?_) (fun hc=>?_)
  ·
   have hge2:b.length≤i.i:=by have:=wI hc;omega
   refine wE<|wD rfl<|QS ?_
   repeat (first | refine JC ?_ | refine Q5 ?_)
   exact wH rfl rfl (congrArg (aa .i64) (by rw [i.h,XC hlt,au hge2];rfl)) (fun F h9=>trivial)
  ·
   have hlt2:i.i<b.length:=by have:=wJ hc;omega
   refine QO<|QC<|wF rfl<|wA rfl<|QA (JH (n:=n') (i.i) (fun F h9=>(h9.2).1) rfl rfl Qf Qp (by omega))<|QA (JQ (n:=n') ((i.i)*1) (fun F h9=>(h9.2).1) (by omega) rfl Qp (JJ (o:=b) (by omega)))<|wD rfl<|wF rfl<|wA rfl<|QH rfl (fun w F hF h9=>DC hF ) (fun _=>wD rfl<|wF rfl<|QA (QU rfl rfl rfl)<|QE<|QC ?_)
   refine QQ rfl (fun hc=>?_) (fun hc=>?_)
   ·
    refine wF rfl<|wD rfl<|QS ?_
    repeat (first | refine JC ?_ | refine Q5 ?_)
    exact wH rfl rfl (congrArg (aa .i64) (by rw [i.cons hlt hlt2,if_pos (by rw [← MK];simpa using hc),MK])) (fun F h9=>trivial)
   ·
    refine QO<|Qk<|QC<|QB<|QA (Qs rfl rfl (by omega))<|wA rfl<|QE ?_
    exact Qo (⟨i.i+1,hlt,hlt2,by rw [i.cons hlt hlt2,if_neg (by rw [← MK];simpa using hc)]⟩) (by show a.length - (i.i+1)<a.length - i.i;omega) wO wG (fun F h=>h.1)
 ·
  have hge:a.length≤i.i:=by have:=wJ hc;omega
  refine Qz ?_
  repeat (first | refine Qb ?_ | refine QV (by rfl) ?_)
  refine Qc<|QC<|QG<|wF rfl<|QA (Qj rfl Qf)<|wA rfl<|QA (Qj rfl Qf)<|QA (QU rfl rfl rfl)<|QE<|QC ?_
  refine QQ rfl (fun hc=>?_) (fun hc=>?_)
  ·
   have hlt3:=wI hc
   refine wE<|wD rfl<|QS ?_
   exact wH rfl rfl (congrArg (aa .i64) (by rw [i.h,au hge,XC (l:=b) (k:=i.i) (by omega)];rfl)) (fun F h9=>trivial)
  ·
   have hlt3:=wJ hc
   refine QO<|QC<|wE<|wD rfl<|QS ?_
   exact wH rfl rfl (congrArg (aa .i64) (by rw [i.h,au hge,au (by omega)];rfl)) (fun F h9=>trivial)
theorem BA {w:ar} {F:Gs} {ra rb:Sr} {a b:List Int} (hF:Fits F w) (hA:JR F ra a) (hB:JR F rb b) (pa:PW a) (pb:PW b):QZ Tryz.prog 136 [ra.v,rb.v] w F (.int .i64 (VH a b)):=by
 have la:=pa.2
 have lb:=pb.2
 dsimp only [Sr.v]
 refine QT.intro (G:=fun F=>JR F ra a∧JR F rb b) Tryz.func136 rfl (by rfl) rfl rfl hF (fun F' hF'=>⟨hA.le hF',hB.le hF'⟩)<|wE<|wD rfl<|wF rfl<|QH rfl (fun w F hF h9=>Da hF (r:=rb) h9.2 (pb)) (fun _=>wA rfl<|QH rfl (fun w F hF h9=>Da hF (r:=ra) h9.1.1 (pa)) (fun _=>QH rfl (fun w F hF h9=>DC hF ) (fun _=>?_)))
 rw [MK]
 refine wA rfl<|wA rfl<|QH rfl (fun w F hF h9=>TD hF (ra:=rb) (rb:=ra) h9.1.1.1.2 (h9.1.1.1.1) (by omega) (by omega)) (fun _=>QW rfl (Q8 Qf) Qp Vv rfl rfl (fun b13=>QH rfl (fun w F hF h9=>jE hF (Q6.of (cs:=ee Qy [Zd b.sum a.sum,Un b a]) h9.2 rfl) (by decide)) (fun _=>wD rfl<|QS ?_)))
 exact wH rfl rfl (rfl) (fun F h9=>trivial)
end
def XP {κ:Type} (K:κ→ai):List (κ×ai)→Nat→List MapEntry
 |[],_=>[]
 |x::l,i=>⟨K x.1,x.2,i⟩::XP K l (i+1)
def ZD {κ:Type} (K:κ→ai) (l:List (κ×ai)):Obj:=.map (XP K l 0).toArray l.length
def Z6 {κ:Type} [DecidableEq κ]:List (κ×ai)→κ→Nat→Option (Nat×ai)
 |[],_,_=>none
 |x::l,k,i=>if k=x.1 then some (i,x.2) else Z6 l k (i+1)
def Bi {κ:Type} [DecidableEq κ]:List (κ×ai)→κ→ai→List (κ×ai)
 |[],k,v=>[(k,v)]
 |x::l,k,v=>if k=x.1 then(k,v)::l else x::Bi l k v
structure Sn (P:aS) (kt:aO) {κ:Type} [DecidableEq κ] (K:κ→ai):Prop where
 gC:∀ e w k,(Instr.checkKey e 10000 kt (K k)).run P w = .ok () w
 find:∀ w k (l:List (κ×ai)),(Instr.findKey kt (K k) (XP K l 0)).run P w = .ok (Z6 l k 0) w
 same:∀ k,Instr.sameBits 10000 (K k) (K k)=true
section
variable {κ:Type} {K:κ→ai}
theorem Dk:∀ (l:List (κ×ai)) i,(XP K l i).length=l.length
 |[],_=>rfl
 |_::l,i=>by simp [XP,Dk l]
theorem Nn:∀ (l:List (κ×ai)) i k v,XP K (l++[(k,v)]) i=XP K l i++[⟨K k,v,i+l.length⟩]
 |[],i,k,v=>by simp [XP]
 |x::l,i,k,v=>by
  simp only [ak,XP,Nn l,ax]
  rw [show i+1+l.length=i+(l.length+1) from by omega]
theorem WL:∀ (l:List (κ×ai)) (i j:Nat),(XP K l i)[j]?=l[j]?.map fun x=>(⟨K x.1,x.2,i+j⟩:MapEntry)
 |[],_,_=>by simp [XP]
 |x::l,i,0=>by simp [XP]
 |x::l,i,j+1=>by
  simp only [XP,eO,WL l]
  rw [show i+1+j=i+(j+1) from by omega]
theorem RJ:∀ (l:List (κ×ai)) i j k v,XP K (l.set j (k,v)) i=(XP K l i).modify j fun e=>{ e with key:=K k,val:=v }
 |[],_,_,_,_=>by simp [XP]
 |x::l,i,0,k,v=>by simp [XP]
 |x::l,i,j+1,k,v=>by simp [XP,RJ l]
theorem BH:∀ (l:List (κ×ai)) i,∀ e∈XP K l i,i≤e.born∧e.born<i+l.length
 |[],_,e,h=>by cases h
 |x::l,i,e,h=>by
  simp only [XP,bg] at h
  rcases h with rfl | h
  ·simp
  ·have:=BH l (i+1) e h
   simp only [ax];omega
theorem ET:∀ (l:List (κ×ai)) i,((XP K l i).map (·.born)).Nodup
 |[],_=>fj
 |x::l,i=>by
  simp only [XP,aH]
  refine List.nodup_cons.2 ⟨fun h=>?_,ET l (i+1)⟩
  obtain ⟨e,he,h⟩:=List.mem_map.1 h
  have:=(BH l (i+1) e he).1
  omega
variable [DecidableEq κ]
theorem BG:∀ {l:List (κ×ai)} {k i j v},Z6 l k i=some (j,v)→i≤j∧j - i<l.length∧l[j - i]?=some (k,v)
 |[],_,_,_,_,h=>by cases h
 |x::l,k,i,j,v,h=>by
  simp only [Z6] at h
  split at h
  ·rename_i e
   cases h
   subst e
   simp
  ·obtain ⟨h1,h2,h3⟩:=BG h
   refine⟨by omega,by simp only [ax];omega,?_⟩
   rw [show j - i=(j - (i+1))+1 from by omega,eO];exact h3
theorem Py:∀ {l:List (κ×ai)} {k v i},Z6 l k i=none→Bi l k v=l++[(k,v)]
 |[],_,_,_,_=>rfl
 |x::l,k,v,i,h=>by
  simp only [Z6] at h
  split at h
  ·cases h
  ·rename_i e
   simp only [Bi,if_neg e,ak,Py h]
theorem Px:∀ {l:List (κ×ai)} {k v i j u},Z6 l k i=some (j,u)→Bi l k v=l.set (j - i) (k,v)
 |[],_,_,_,_,_,h=>by cases h
 |x::l,k,v,i,j,u,h=>by
  simp only [Z6] at h
  split at h
  ·rename_i e
   cases h
   simp [Bi,e]
  ·rename_i e
   have:=(BG h).1
   simp only [Bi,if_neg e,Px h]
   rw [show j - i=(j - (i+1))+1 from by omega];rfl
end
theorem AE (a b:List UInt8):Instr.sameNow .string (tx a) (tx b)=some (decide (a=b)):=by
 show some ((⟨a.toArray⟩:ByteArray)==⟨b.toArray⟩)=_
 congr 1
 rw [ae,decide_eq_true_iff,MapKept.bytes_beq]
 constructor
 ·intro h;cases h;rfl
 ·intro h;rw [h]
theorem Ni (k:List UInt8):∀ (l:List (List UInt8×ai)) (i n:Nat),fk .string (tx k) (XP tx l n) i=some (Z6 l k i)
 |[],_,_=>rfl
 |x::l,i,n=>by
  simp only [XP,fk,AE,Z6]
  by_cases h:k=x.1
  ·simp [h]
  ·simp [h,Ni k l]
theorem Sn.str {P:aS} {kt:aO} (h:P.underlying kt=some .string):Sn P kt tx where
 gC:=fun e w k=>MapKept.run_checkKey (k:=tx k) h (by simp [MapKept.IsKey,tx]) e 9999
 find:=fun w k l=>MapKept.run_findKey h (Ni k l 0 0)
 same:=fun k=>by
  show(ByteArray.mk k.toArray==ByteArray.mk k.toArray)=true
  rw [MapKept.bytes_beq]
def gQ (P:aS) (T:aO):Option ai:=match P.info? T with
 |some i=>i.zero
 |none=>none
theorem qS {P:aS} {T:aO} {z:ai} (h:gQ P T=some z) (w:ar):(zeroValue T).run P w = .ok z w:=by
 unfold gQ at h
 split at h
 ·rename_i i hi
  simp [zeroValue,typeInfo,hi,h]
 ·cases h
def Tn (P:aS) (T kt et:aO):Bool:=match P.underlying T with | some (.map k e)=>Nat.beq k kt&&Nat.beq e et | _=>false
theorem SF {P:aS} {T kt et:aO} (h:Tn P T kt et=true):P.underlying T=some (.map kt et):=by
 unfold Tn at h
 split at h
 ·rename_i e
  simp only [ay] at h
  have h1:=Nat.eq_of_beq_eq_true h.1
  have h2:=Nat.eq_of_beq_eq_true h.2
  rw [e,h1,h2]
 ·cases h
section
variable [Dr] [df:Df] {P:aS} {Q:Exit→Act→ar→Prop} {N:Nat} {m:Sl} {E E0:Env} {ops:Array Oper} {l:List Oper} {w0:ar} {F0:Gs} {bs:List (Nat×Obj)} {G:Gs→Prop} {d:Nat} {ty:aO} {pos:String} {aft:Array Edge}
theorem Va {κ:Type} (K:κ→ai) {T:aO} (k:∀ b,JS P ops Q l N ((d,.map (some b))::m) ⟨w0,F0,(b,ZD K [])::bs,G⟩) (hd:J5 N (some d)=true:=by rfl) :
  JS P ops Q (⟨some d,.makeMap T none,ty,pos,aft,none⟩::l) N m ⟨w0,F0,bs,G⟩:=fun a w ha hw=>by
 have hrun:(execOp a.eval ⟨some d,.makeMap T none,ty,pos,aft,none⟩).run P w = .ok (.value (.map (some w.heap.size))) (w.alloc (.map #[] 0)):=by
  simp [execOp,Instr.makeMap]
 exact wpList_plain rfl fun Kk hK=>upon_value hrun (hK _ _ (k _ _ _ (ha.put hd _) (hw.alloc _ (fun c fr e=>by cases e))))
variable {κ:Type} [DecidableEq κ] {K:κ→ai} {kv:List (κ×ai)} {b:Nat} {f:Obj→List (Nat×Obj)}
theorem TQ {T kt et:aO} {x y:bz} {k:κ} {i:Nat} {v:ai} (hq:Sn P kt K) (hx:ev m x=some (.map (some b))) (hy:ev m y=some (K k)) (ht:Tn P T kt et=true) (ho:Own bs b (ZD K kv) f) (hf:Z6 kv k 0=some (i,v)) :
  Qt P N m (St ⟨w0,F0,bs,G⟩) (.lookup T x y true) ty (.tuple #[v,.bool true]):=fun a w _ _ _ _ ha hw=>by
 have hb:=hw.own ho
 unfold ZD at hb
 have hu:=SF ht
 simp [execOp,ha.ev hx,ha.ev hy,Instr.lookup,run_underlying hu,bB hb,hq.gC,hq.find,hf]
theorem Pu {T kt et:aO} {x y:bz} {k:κ} {z:ai} (hq:Sn P kt K) (hx:ev m x=some (.map (some b))) (hy:ev m y=some (K k)) (ht:Tn P T kt et=true) (hz:gQ P et=some z) (ho:Own bs b (ZD K kv) f) (hf:Z6 kv k 0=none) :
  Qt P N m (St ⟨w0,F0,bs,G⟩) (.lookup T x y true) ty (.tuple #[z,.bool false]):=fun a w _ _ _ _ ha hw=>by
 have hb:=hw.own ho
 unfold ZD at hb
 have hu:=SF ht
 simp [execOp,ha.ev hx,ha.ev hy,Instr.lookup,run_underlying hu,bB hb,hq.gC,hq.find,hf,qS hz]
theorem HZ {T kt et:aO} {x y z:bz} {k:κ} {v:ai} (hq:Sn P kt K) (hx:ev m x=some (.map (some b))) (hy:ev m y=some (K k)) (hz:ev m z=some v) (ht:Tn P T kt et=true) (ho:Own bs b (ZD K kv) f)
  (kk:JS P ops Q l N m ⟨w0,F0,f (ZD K (Bi kv k v)),G⟩):JS P ops Q (⟨none,.mapUpdate T x y z,ty,pos,aft,none⟩::l) N m ⟨w0,F0,bs,G⟩:=fun a w ha hw=>by
 have hb:=hw.own ho
 obtain ⟨pre,post,e1,e2⟩:=ho.split
 subst e1
 rw [e2] at kk
 have hu:=SF ht
 have hb':=hb
 unfold ZD at hb'
 have hrun:(execOp a.eval ⟨none,.mapUpdate T x y z,ty,pos,aft,none⟩).run P w = .ok .skip { w with heap:=w.heap.setIfInBounds b (ZD K (Bi kv k v)) }:=by
  cases hf:Z6 kv k 0 with
  |none =>
   have e:ZD K (Bi kv k v) = .map ((XP K kv 0).toArray.push ⟨K k,v,kv.length⟩) (kv.length+1):=by
    rw [Py hf];simp [ZD,Nn]
   rw [e]
   simp [execOp,ha.ev hx,ha.ev hy,ha.ev hz,Instr.mapUpdate,run_underlying hu,bB hb',hq.gC,hq.find,hf,MapKept.run_setObj_map _ hb']
  |some r =>
   obtain ⟨i,u⟩:=r
   obtain ⟨_,h2,h3⟩:=BG hf
   rw [eQ] at h2 h3
   have e:ZD K (Bi kv k v) = .map ((XP K kv 0).toArray.modify i fun e=>{ e with key:=K k,val:=v }) kv.length:=by
    rw [Px hf]
    unfold ZD
    rw [eQ,RJ,ao]
    congr 1
    apply Array.ext'
    simp
   have hk:((((XP K kv 0).toArray[i]?).map (·.key)).getD (K k))=K k:=by
    simp [WL,h3]
   rw [e]
   simp only [execOp,ha.ev hx,ha.ev hy,ha.ev hz,Instr.mapUpdate,fI,run_underlying hu,bB hb',hq.gC,hq.find,hf,eY,hk,Instr.keyThatStays,hq.same,if_true,fH,MapKept.run_setObj_map _ hb']
 exact wpList_plain rfl fun Kk hK=>upon_skip hrun (hK _ _ (kk _ _ ha (hw.write pre ⟨rfl,rfl,rfl,rfl,rfl⟩ (fun c fr e=>by cases e))))
def yh (kv:List (κ×ai)) (K:κ→ai):Option Nat→Array ai
 |some j=>match kv[j]? with
  |some p=>#[.bool true,K p.1,p.2]
  |none=>#[.bool true]
 |none=>#[.bool false]
def dP (seen:List Nat):Option Nat→List Nat
 |some j=>seen++[j]
 |none=>seen
def cV (n:Nat) (seen:List Nat):Option Nat→Prop
 |some j=>j<n∧j∉seen
 |none=>∀ j,j<n→j∈seen
omit [DecidableEq κ] in
theorem xy (x:Option Nat):(yh kv K x)[0]?=some (.bool x.isSome):=by
 cases x with
 |none=>rfl
 |some j =>
  simp only [yh]
  cases kv[j]?<;>rfl
def Fl (b n:Nat) (seen:List Nat):Obj:=.mapIter (some b) n seen.toArray n
omit [DecidableEq κ] in
theorem Eh {T kt et:aO} {x:bz} (hx:ev m x=some (.map (some b))) (ht:Tn P T kt et=true) (ho:Own bs b (ZD K kv) f) (k:∀ r,JS P ops Q l N ((d,.pointer (some ⟨r,0,none⟩))::m) ⟨w0,F0,(r,Fl b kv.length [])::bs,G⟩) (hd:J5 N (some d)=true:=by rfl) :
  JS P ops Q (⟨some d,.range T x,ty,pos,aft,none⟩::l) N m ⟨w0,F0,bs,G⟩:=fun a w ha hw=>by
 have hb:=hw.own ho
 unfold ZD at hb
 have hrun:(execOp a.eval ⟨some d,.range T x,ty,pos,aft,none⟩).run P w = .ok (.value (.pointer (some ⟨w.heap.size,0,none⟩))) (w.alloc (Fl b kv.length [])):=by
  simp [execOp,ha.ev hx,run_range_map w T kt et b _ _ (SF ht) hb,Fl]
 exact wpList_plain rfl fun Kk hK=>upon_value hrun (hK _ _ (k _ _ _ (ha.put hd _) (hw.alloc _ (fun c fr e=>by cases e))))
omit [DecidableEq κ] in
theorem N3 {x:bz} {r:Nat} {seen:List Nat} {g:Obj→List (Nat×Obj)} (hx:ev m x=some (.pointer (some ⟨r,0,none⟩))) (hr:Own bs r (Fl b kv.length seen) g) (ho:Own bs b (ZD K kv) f)
  (k:∀ x,cV kv.length seen x→JS P ops Q l N ((d,.tuple (yh kv K x))::m) ⟨w0,F0,g (Fl b kv.length (dP seen x)),G⟩) (hd:J5 N (some d)=true:=by rfl) :
  JS P ops Q (⟨some d,.next x false,ty,pos,aft,none⟩::l) N m ⟨w0,F0,bs,G⟩:=fun a w ha hw=>by
 have hb:=hw.own ho
 have hi:=hw.own hr
 unfold ZD at hb
 obtain ⟨pre,post,e1,e2⟩:=hr.split
 subst e1
 simp only [e2] at k
 have hold:∀ e∈(XP K kv 0).toArray.toList,e.born<kv.length:=fun e he=>by have:=(BH kv 0 e (by simpa using he)).2;omega
 rcases run_next_at (P:=P) w ty r b kv.length kv.length seen.toArray (XP K kv 0).toArray kv.length hi hb hold (aq _) with ⟨h0,hn⟩ | ⟨e,he,w1,hw1,hn⟩
 ·have hrun:(execOp a.eval ⟨some d,.next x false,ty,pos,aft,none⟩).run P w = .ok (.value (.tuple (yh kv K none))) w:=by
   simp [execOp,ha.ev hx,hn,yh]
  refine wpList_plain rfl fun Kk hK=>upon_value hrun (hK _ _ (k none (fun j hj=>?_) _ _ (ha.put hd _) hw))
  have hm:(⟨K kv[j].1,kv[j].2,j⟩:MapEntry)∈XP K kv 0:=by
   have:=WL (K:=K) kv 0 j
   rw [aY hj,aM] at this
   exact eT this
  have hz:leftOf (XP K kv 0).toArray seen.toArray=#[]:=Array.eq_empty_of_size_eq_zero h0
  unfold leftOf at hz
  rw [Array.filter_eq_empty_iff] at hz
  have:=hz _ (by simpa using hm)
  simpa using this
 ·unfold leftOf at he
  simp only [List.mem_toArray,Array.mem_toList_iff,Array.mem_filter] at he
  obtain ⟨hm,hs⟩:=he
  obtain ⟨j,hj,hje⟩:=List.getElem_of_mem hm
  rw [Dk] at hj
  have hg:=WL (K:=K) kv 0 j
  rw [aY hj,aY (by rw [Dk];exact hj),hje,aM] at hg
  have hg':e=⟨K kv[j].1,kv[j].2,j⟩:=by simpa using hg
  subst hg'
  have hrun:(execOp a.eval ⟨some d,.next x false,ty,pos,aft,none⟩).run P w = .ok (.value (.tuple (yh kv K (some j)))) (ChangeMaps.setBlock w1 r (Fl b kv.length (dP seen (some j)))):=by
   simp [execOp,ha.ev hx,hn,yh,hj,Fl,dP]
  have hw2:St ⟨w0,F0,pre++(r,Fl b kv.length seen)::post,G⟩ w1:=by
   rcases hw1 with rfl | rfl
   ·exact hw
   ·exact hw.drew
  exact wpList_plain rfl fun Kk hK=>upon_value hrun (hK _ _ (k (some j) ⟨hj,by simpa using hs⟩ _ _ (ha.put hd _) (hw2.write pre ⟨rfl,rfl,rfl,rfl,rfl⟩ (fun c fr e=>by cases e))))
omit [DecidableEq κ] in
theorem FX {x:bz} {r j:Nat} {seen:List Nat} {p:κ×ai} {g:Obj→List (Nat×Obj)} (hx:ev m x=some (.pointer (some ⟨r,0,none⟩))) (hr:Own bs r (Fl b kv.length (seen++[j])) g) (ho:Own bs b (ZD K kv) f) (hj:kv[j]?=some p) :
  Qt P N m (St ⟨w0,F0,bs,G⟩) (.entry x) ty (.tuple #[K p.1,p.2]):=fun a w _ _ _ _ ha hw=>by
 have hb:=hw.own ho
 have hi:=hw.own hr
 unfold ZD at hb
 have hg:=WL (K:=K) kv 0 j
 rw [hj,aM] at hg
 have hmem:=eT hg
 have:=run_entry_at (P:=P) w r b kv.length seen.toArray (XP K kv 0).toArray kv.length ⟨K p.1,p.2,j⟩ (by rw [hi];simp [Fl]) hb (by simpa using hmem) (by simpa using ET kv 0)
 simp [execOp,ha.ev hx,this]
end
theorem It (l:List Int) (x:Int):Yu (l++[x])=(Yu l++fp x)++[32]:=by unfold Yu;rw [List.flatMap_append];simp
theorem RE {x:Int} (h:0≤x∧x≤1000000):(fp x).length≤21:=Lib.itoa_length_le x (by omega) (by omega)
theorem T3:∀ {l:List Int},(∀ x∈l,0≤x∧x≤1000000)→(Yu l).length≤22*l.length
 |[],_=>by simp [Yu]
 |x::l,h=>by
  have h1:=RE (h x (by simp))
  have h2:=T3 (l:=l) (fun y hy=>h y (by simp [hy]))
  rw [WI]
  simp only [aj,ax]
  change (X1 x).length≤21 at h1
  omega
structure QAL (b:Nat) (l:List Int) where
 i:Nat
 ob:List (Nat×Obj)
 le:i≤l.length
 bl:Ur b (Yu (l.take i)) ob
theorem Oo {w:ar} {F:Gs} {r:Sr} {l:List Int} (hF:Fits F w) (hGl:JB F) (hR:JR F r l) (hp:PW l):QZ Tryz.prog 252 [r.v] w F (tx (Yu l)):=by
 obtain ⟨q,n,c⟩:=r
 have hln:=hR.2.1
 dsimp only [Sr.v] at hln ⊢
 have hl1:=hp.2
 refine QT.intro (G:=fun F=>JB F∧JR F ⟨q,n,c⟩ l) Tryz.func252 rfl (by rfl) rfl rfl hF (fun F' hF'=>⟨hGl.le hF',hR.le hF'⟩)<|wE<|wD rfl<|wE<|Qg xK (fun b3=>wC<|QG<|wF rfl<|QA (Qj rfl Qf)<|wA rfl<|wC<|QX<|Jz (ι:=QAL b3 l) [(3,_),(6,_),(7,_)] (fun i=>[(8,.int .i64 ((i.i:Nat):Int))]) (fun i=>i.ob++[]) (fun i F=>True) (fun i=>l.length - i.i) (⟨0,_,aF _,by rw [List.take_zero];exact .fresh⟩) wM wK wG (fun _ _=>trivial) (fun i=>?_))
 have hi:=i.le
 have hkl:=T3 (l:=l.take i.i) (fun x hx=>hp.1 x (eS hx))
 rw [bF] at hkl
 refine wE<|QA (QU rfl rfl rfl)<|wC<|QG ?_
 refine QQ rfl (fun hc=>?_) (fun hc=>?_)
 ·
  have hlt:i.i<l.length:=by have:=wI hc;omega
  have he:=hp.el hlt
  have hil:=RE he
  refine QO<|QC<|QG<|QX<|wE<|QA (JH (n:=n) (i.i) (fun F h9=>(h9.1.2).1) rfl rfl Qf Qp (by omega))<|QA (JQ (n:=n) ((i.i)*1) (fun F h9=>(h9.1.2).1) (by omega) rfl Qp (JJ (o:=l) (by omega)))<|wD rfl<|wF rfl<|QH rfl (fun w F hF h9=>CK hF h9.1.1 ((by omega)) ((by omega))) (fun _=>XO rfl (bh _) (Vw i.bl (by omega)) (fun xL=>JO _ (fun w F hF h=>h.2) (fun hbl=>wC<|QB<|XO rfl (bh _) (Sy (c:=32) hbl (by rw [aj];omega)) (fun wob2=>JO _ (fun w F hF h=>h.2) (fun hbl2=>?_)))))
  rw [← It,Xy hlt,← X7 hlt] at hbl2
  refine QE<|Qk<|QC<|QB<|QA (Qs rfl rfl (by omega))<|wA rfl<|QE ?_
  exact Qo (⟨i.i+1,wob2,hlt,hbl2⟩) (by show l.length - (i.i+1)<l.length - i.i;omega) wN wG (fun F h=>⟨h.1.1.1.1,trivial⟩)
 ·
  have hge:i.i=l.length:=by have:=wJ hc;omega
  refine Qz ?_
  repeat (first | refine Qb ?_ | refine QV (by rfl) ?_)
  refine Qc<|QC<|QG<|QB ?_
  have hbl:=i.bl
  rw [hge,bU] at hbl
  refine Ei (v:=tx (Yu l)) hF rfl (enters_of Tryz.func281 (by rfl) rfl) (fun w' hw'=>Tryz.Builder_String_any w.heap.size b3 (Yu l) w' (hbl.is hw') (by obtain ⟨F',h'⟩:=hw';exact h'.ext.size))<|wD rfl<|QS ?_
  exact wH rfl rfl (rfl) (fun _ _=>trivial)
end Go.Proofs.YtknegjaeoffnbaaGreatDoor
namespace Ig
def BK:List Tm→Tm→List Tm
 |[],n=>[n]
 |t::l,n=>if n.2=t.2 then n::l else t::BK l n
theorem RZ:∀ (l:List Tm) (n:Tm),∀ k,k∈(BK l n).map (·.2)→k=n.2∨k∈l.map (·.2)
 |[],n,k,h=>by simp [BK] at h;exact .inl h
 |t::l,n,k,h=>by
  simp only [BK] at h
  split at h
  ·simp only [aH,bg] at h ⊢;rcases h with h | h
   ·exact .inl h
   ·exact .inr (.inr h)
  ·simp only [aH,bg] at h ⊢;rcases h with h | h
   ·exact .inr (.inl h)
   ·rcases RZ l n k h with h | h
    ·exact .inl h
    ·exact .inr (.inr h)
theorem N0:∀ {l:List Tm} (n:Tm),(l.map (·.2)).Nodup→((BK l n).map (·.2)).Nodup
 |[],n,_=>by simp [BK]
 |t::l,n,h=>by
  simp only [aH] at h
  obtain ⟨h1,h2⟩:=List.nodup_cons.1 h
  simp only [BK]
  split
  ·rename_i e
   simp only [aH];rw [e];exact h
  ·rename_i e
   simp only [aH]
   refine List.nodup_cons.2 ⟨fun hm=>?_,N0 n h2⟩
   rcases RZ l n _ hm with g | g
   ·exact e g.symm
   ·exact h1 g
theorem RT:∀ {l:List Tm} (n:Tm),(l.map (·.2)).Nodup→∀ k,Jh (BK l n) k=if n.2=k then n.1 else Jh l k
 |[],n,_,k=>by simp [BK,Jh,aI]
 |t::l,n,h,k=>by
  simp only [aH] at h
  obtain ⟨h1,h2⟩:=List.nodup_cons.1 h
  have hz:Jh l t.2=0:=Y6 fun x hx e=>h1 (e ▸ ba (f:=(·.2)) hx)
  simp only [BK]
  split
  ·rename_i e
   simp only [Jh]
   by_cases g:n.2=k
   ·have g2:t.2=k:=e ▸ g
    rw [if_pos g,if_pos g,← g2,hz,aI]
   ·have g2:¬ t.2=k:=fun q=>g (e.trans q)
    rw [if_neg g,if_neg g,if_neg g2]
  ·rename_i e
   simp only [Jh]
   rw [RT n h2 k]
   by_cases g:n.2=k
   ·have g2:¬ t.2=k:=fun q=>e (g.trans q.symm)
    rw [if_pos g,if_neg g2,if_pos g,aP]
   ·rw [if_neg g,if_neg g]
structure LP (T l:List Tm):Prop where
 nd:(T.map (·.2)).Nodup
 eq:KB T l
theorem LP.nil:LP [] []:=⟨fj,KB.refl _⟩
theorem LP.add {T l:List Tm} (h:LP T l) (f:Rat) (p:List Int):LP (BK T (f+Jh T p,p)) (l++[(f,p)]) :=
 ⟨N0 _ h.nd,fun k=>by
  rw [RT _ h.nd,Z7,← h.eq k]
  simp only [Jh]
  by_cases g:p=k
  ·rw [if_pos g,if_pos g,g,aI];exact bW _ _
  ·rw [if_neg g,if_neg g,aI,aI]⟩
theorem LP.DE {T l:List Tm} (h:LP T l) {t:Tm} (ht:t∈T):Jh T t.2=t.1:=by
 have key:∀ {T:List Tm},(T.map (·.2)).Nodup→t∈T→Jh T t.2=t.1:=by
  intro T
  induction T with
  |nil=>intro _ h;cases h
  |cons x T ih =>
   intro hn hm
   simp only [aH] at hn
   obtain ⟨h1,h2⟩:=List.nodup_cons.1 hn
   rcases List.mem_cons.1 hm with rfl | hm
   ·simp only [Jh]
    have hz:Jh T t.2=0:=Y6 fun x hx e=>h1 (e ▸ ba (f:=(·.2)) hx)
    rw [if_pos trivial,hz,aI]
   ·simp only [Jh]
    have:¬ x.2=t.2:=fun e=>h1 (e ▸ ba (f:=(·.2)) hm)
    rw [if_neg this,ih h2 hm,aP]
 exact key h.nd ht
theorem RS {T:List Tm} {p:List Int} (h:p∉T.map (·.2)):Jh T p=0:=Y6 fun x hx e=>h (e ▸ ba (f:=(·.2)) hx)
theorem LP.norm {T l s:List Tm} (h:LP T l) (hp:s.Perm (T.filter fun t=>decide (t.1≠0))) (hs:s.Pairwise fun x y=>before x.2 y.2=true):s=Jp l:=by
 refine Te ⟨hs,fun t ht=>?_⟩ ((KB.perm hp).trans ((eqv_filter T).trans h.eq))
 have:=(hp.mem_iff).1 ht
 simpa using (List.mem_filter.1 this).2
end Ig
namespace Go.Proofs.YtknegjaeoffnbaaGreatDoor
open Go.RowKit Ig
structure XU where
 x:Fr
 r:Sr
 t:Tm
instance :Inhabited XU:=⟨⟨⟨⟨0,none,0,0⟩,⟨0,none,0,0⟩⟩,⟨none,0,0⟩,(0,[])⟩⟩
def Ym (t:XU):List ai:=[.int .i64 t.x.n.s,.slice t.x.n.q t.x.n.n t.x.n.cap,.int .i64 t.x.d.s,.slice t.x.d.q t.x.d.n t.x.d.cap,.slice t.r.q t.r.n t.r.cap]
@[reducible] def AV (t:XU):ai:=.agg #[.int .i64 t.x.n.s,.slice t.x.n.q t.x.n.n t.x.n.cap,.int .i64 t.x.d.s,.slice t.x.d.q t.x.d.n t.x.d.cap,.slice t.r.q t.r.n t.r.cap]
theorem YP (t:XU):(Ym t).length=5:=rfl
def Sx (F:Gs) (t:XU):Prop:=JY F t.x t.t.1∧JR F t.r t.t.2
theorem Sx.le {F F':Gs} {t:XU} (h:Sx F t) (k:Gs.le F F'):Sx F' t:=⟨h.1.le k,h.2.le k⟩
def Vh (F:Gs) (ts:List XU):Prop:=∀ t∈ts,Sx F t
theorem Vh.le {F F':Gs} {ts:List XU} (h:Vh F ts) (k:Gs.le F F'):Vh F' ts:=fun t ht=>(h t ht).le k
def Wo (ts:List XU):List (List UInt8×ai):=ts.map fun t=>(Yu t.t.2,AV t)
def JG (ts:List XU):List Tm:=ts.map (·.t)
def addN:List XU→XU→List XU
 |[],n=>[n]
 |t::l,n=>if n.t.2=t.t.2 then n::l else t::addN l n
theorem S5:∀ (ts:List XU) (n:XU),JG (addN ts n)=BK (JG ts) n.t
 |[],n=>rfl
 |t::l,n=>by
  have ih:=S5 l n
  unfold JG at ih ⊢
  simp only [addN,aH,BK]
  split
  ·simp
  ·simp [ih]
theorem NW:∀ (ts:List XU) (n:XU),Wo (addN ts n)=Bi (Wo ts) (Yu n.t.2) (AV n)
 |[],n=>rfl
 |t::l,n=>by
  have ih:=NW l n
  unfold Wo at ih ⊢
  simp only [addN,aH,Bi]
  by_cases h:n.t.2=t.t.2
  ·rw [if_pos h,if_pos (congrArg Yu h)];simp
  ·rw [if_neg h,if_neg fun e=>h (Bt e)];simp [ih]
theorem NT {ts:List XU} {n x:XU} (h:x∈addN ts n):x=n∨x∈ts:=by
 induction ts with
 |nil=>simp [addN] at h;exact .inl h
 |cons t l ih =>
  simp only [addN] at h
  split at h
  ·rcases List.mem_cons.1 h with h | h
   ·exact .inl h
   ·exact .inr (bG _ h)
  ·rcases List.mem_cons.1 h with h | h
   ·exact .inr (h ▸ e8)
   ·rcases ih h with h | h
    ·exact .inl h
    ·exact .inr (bG _ h)
theorem zQ:∀ (ts:List XU) (p:List Int) (i:Nat),(Z6 (Wo ts) (Yu p) i=none∧p∉(JG ts).map (·.2))∨∃ j,∃ t∈ts,t.t.2=p∧Z6 (Wo ts) (Yu p) i=some (j,AV t)
 |[],_,_=>.inl ⟨rfl,by simp [JG]⟩
 |t::l,p,i=>by
  by_cases h:p=t.t.2
  ·exact .inr ⟨i,t,e8,h.symm,by show(if _ then _ else _)=_;rw [if_pos (congrArg Yu h)]⟩
  ·rcases zQ l p (i+1) with ⟨h1,h2⟩ | ⟨j,u,hu,h1,h2⟩
   ·refine .inl ⟨?_,?_⟩
    ·show(if _ then _ else _)=_
     rw [if_neg fun e=>h (Bt e)];exact h1
    ·simp only [JG,aH,bg,not_or];exact⟨h,h2⟩
   ·refine .inr ⟨j,u,bG _ hu,h1,?_⟩
    show(if _ then _ else _)=_
    rw [if_neg fun e=>h (Bt e)];exact h2
def Zh (l:List Tm):Nat:=(l.map fun t=>JL t.1+1).sum
theorem Xc (l m:List Tm):Zh (l++m)=Zh l+Zh m:=by unfold Zh;rw [List.map_append,fg]
theorem BX:∀ (l:List Tm) (k:List Int),JL (Jh l k)≤Zh l+1
 |[],k=>by show JL (0:Rat)≤_;decide
 |t::l,k=>by
  have h1:=BX l k
  simp only [Jh]
  have h2:=Vc (if t.2=k then t.1 else 0) (Jh l k)
  have h3:JL (if t.2=k then t.1 else 0)≤JL t.1+1:=by
   split
   ·omega
   ·have:JL (0:Rat)≤1:=by decide
    omega
  have e:Zh (t::l)=JL t.1+1+Zh l:=by unfold Zh;rw [aH,List.sum_cons]
  have h4:JL (Jh (t::l) k)≤Zh l+1+(JL t.1+1):=by
   simp only [Jh]
   by_cases g:t.2=k
   ·rw [if_pos g] at h2 ⊢
    omega
   ·rw [if_neg g,aP];omega
  rw [e]
  simp only [Jh] at h4
  omega
structure VE (ts:List XU) (l:List Tm):Prop where
 Um:LP (JG ts) l
 pw:∀ t∈ts,PW t.t.2
 ln:ts.length≤l.length
theorem VE.nil:VE [] []:=⟨LP.nil,(fun _ h=>by cases h),aq _⟩
theorem Cl (ts:List XU) (n:XU):(addN ts n).length≤ts.length+1:=by
 induction ts with
 |nil=>exact aq _
 |cons t l ih =>
  simp only [addN]
  split<;>simp only [ax]<;>omega
theorem VE.add {ts:List XU} {l:List Tm} (h:VE ts l) {f:Rat} {p:List Int} (hp:PW p) {n:XU} (hn:n.t=(f+Jh (JG ts) p,p)):VE (addN ts n) (l++[(f,p)]) :=
 ⟨by rw [S5,hn];exact h.Um.add f p,fun t ht=>by
  rcases NT ht with rfl | ht
  ·rw [hn];exact hp
  ·exact h.pw t ht,by have:=Cl ts n;have:=h.ln;rw [aj];simp only [aB];omega⟩
theorem VE.sz {ts:List XU} {l:List Tm} (h:VE ts l) {t:XU} (ht:t∈ts):JL t.t.1≤Zh l+1:=by
 rw [← h.Um.DE (ba (f:=XU.t) ht),h.Um.eq];exact BX _ _
theorem NP:Tn Tryz.prog 227 9 165=true:=by kernel_rfl
theorem SM:Sn Tryz.prog 9 tx:=.str (by kernel_rfl)
theorem qQ:gQ Tryz.prog 165=some (.agg #[.int .i64 0,.slice none 0 0,.int .i64 0,.slice none 0 0,.slice none 0 0]):=by kernel_rfl
section
theorem Ss {P:aS} {Q:Exit→Act→ar→Prop} {N:Nat} {m:Sl} {w0:ar} {F0:Gs} {bs:List (Nat×Obj)} {G H:Gs→Prop} {c:Code} (h:∀ F,G F→H F) (k:J P c Q N m ⟨w0,F0,bs,fun F=>G F∧H F⟩):J P c Q N m ⟨w0,F0,bs,G⟩ :=
 fun a w ha hw=>k a w ha (hw.Bu fun F h'=>⟨h',h F h'⟩)
variable {w0:ar} {F0:Gs} {bs:List (Nat×Obj)} {G:Gs→Prop}
theorem U8 {ts:List XU} {l:List Tm} {m:Nat} {x:Fr} {f:Rat} {r:Sr} {p:List Int} (hI:VE ts l) (hp:PW p) (hz:JL f≤40000000) (hl:Zh l≤40000000) (hG:∀ F,G F→JB F∧Vh F ts∧JY F x f∧JR F r p) {t0:XU} {j:Nat} (ht:t0∈ts) (h0:t0.t.2=p) (hf:Z6 (Wo ts) (Yu p) 0=some (j,AV t0)) :
  XD Tryz.prog 210 [.map (some m),x.v,r.v] ⟨w0,F0,(m,ZD tx (Wo ts))::bs,G⟩ (fun(_:XU)=>.tuple #[]) (fun n=>⟨w0,F0,(m,ZD tx (Wo (addN ts n)))::bs,fun F=>G F∧Vh F (addN ts n)∧n.t=(f+Jh (JG ts) p,p)⟩):=by
 have hc0:Jh (JG ts) p=t0.t.1:=by rw [← h0];exact hI.Um.DE (ba (f:=XU.t) ht)
 have hz0:=hI.sz ht
 dsimp only [Sr.v,Fr.v]
 refine XD.intro Tryz.func210 rfl (by rfl) rfl rfl<|Ss hG<|wE<|Q2 rfl (vs:=[_,_,_,_]) rfl (fun b4=>wC<|wF rfl<|QH rfl (fun w F hF h9=>Oo hF h9.2.1 (r:=r) h9.2.2.2.2 (hp)) (fun _=>wD rfl<|QG<|wF rfl<|wA rfl<|QA (TQ SM rfl rfl NP .u1 hf)<|wA rfl<|QA (QM rfl rfl)<|QA (QM rfl rfl)<|Qg Zl (fun b7=>QR (vs:=[_,_,_,_,_]) rfl rfl rfl Je rfl .here .h5 wO ?_)))
 refine wD rfl<|wF rfl<|QE<|QC ?_
 refine QQ rfl (fun hc=>?_) (fun hc=>?_)
 ·
  refine QB<|QA (QJ (vs:=[_,_,_,_]) rfl Qe .u1 .h4 rfl)<|QA (QI rfl Z0 Qe)<|QA (QJ (vs:=[_,_,_,_]) rfl Qe .here .h4 rfl)<|QH rfl (fun w F hF ⟨⟨hG0,hGl,hT,⟨hxn,hxd⟩,hR⟩,_⟩=>Eo hF ⟨by assumption,by assumption⟩ ((hT t0 ht).1) (by omega) (by omega)) (fun x21=>QR (vs:=[_,_,_,_]) rfl rfl rfl Qe rfl .u1 .h4 wN<|wC<|QB<|wA rfl<|wA rfl<|QA (QJ (vs:=[_,_,_,_]) rfl Qe .u1 .h4 rfl)<|wA rfl<|QA (Q7 rfl NH Zl (.cons (vs:=[_,_,_,_]) rfl rfl rfl .h4 (.cons (vs:=[_]) rfl rfl rfl (.skip (.skip (.skip (.skip .h1)))) .nil)))<|HZ (k:=Yu p) (v:=AV ⟨x21,r,(f+t0.t.1,p)⟩) SM rfl rfl rfl NP .u2<|QE<|Dy ?_)
  exact Y5 (⟨x21,r,(f+t0.t.1,p)⟩) rfl .nil (rfl) (fun w h=>by
   show St ⟨w0,F0,(m,ZD tx (Wo (addN ts ⟨x21,r,(f+t0.t.1,p)⟩)))::bs,_⟩ w
   rw [NW]
   exact St.imp h (.cons _ (.cons _ wG)) (fun F ⟨⟨⟨hG0,hGl,hT,⟨hxn,hxd⟩,hR⟩,_⟩,⟨h21,h21_⟩⟩=>⟨hG0,fun t ht=>by
    rcases NT ht with rfl | ht
    ·exact⟨⟨by assumption,by assumption⟩,hR⟩
    ·exact hT t ht,by rw [hc0]⟩))
 ·exact absurd hc (by cases hc)
theorem S9 {ts:List XU} {l:List Tm} {m:Nat} {x:Fr} {f:Rat} {r:Sr} {p:List Int} (hI:VE ts l) (hp:PW p) (hz:JL f≤40000000) (hl:Zh l≤40000000) (hG:∀ F,G F→JB F∧Vh F ts∧JY F x f∧JR F r p) (hf:Z6 (Wo ts) (Yu p) 0=none) (hm:p∉(JG ts).map (·.2)) :
  XD Tryz.prog 210 [.map (some m),x.v,r.v] ⟨w0,F0,(m,ZD tx (Wo ts))::bs,G⟩ (fun(_:XU)=>.tuple #[]) (fun n=>⟨w0,F0,(m,ZD tx (Wo (addN ts n)))::bs,fun F=>G F∧Vh F (addN ts n)∧n.t=(f+Jh (JG ts) p,p)⟩):=by
 have hc0:Jh (JG ts) p=0:=RS hm
 dsimp only [Sr.v,Fr.v]
 refine XD.intro Tryz.func210 rfl (by rfl) rfl rfl<|Ss hG<|wE<|Q2 rfl (vs:=[_,_,_,_]) rfl (fun b4=>wC<|wF rfl<|QH rfl (fun w F hF h9=>Oo hF h9.2.1 (r:=r) h9.2.2.2.2 (hp)) (fun _=>wD rfl<|QG<|wF rfl<|wA rfl<|QA (Pu SM rfl rfl NP qQ .u1 hf)<|wA rfl<|QA (QM rfl rfl)<|QA (QM rfl rfl)<|Qg Zl (fun b7=>QR (vs:=[_,_,_,_,_]) rfl rfl rfl Je rfl .here .h5 wO ?_)))
 refine wD rfl<|wF rfl<|QE<|QC ?_
 refine QQ rfl (fun hc=>?_) (fun hc=>?_)
 ·exact absurd hc (by cases hc)
 ·
  refine QO<|QC<|QB<|wA rfl<|wA rfl<|QA (QJ (vs:=[_,_,_,_]) rfl Qe .u1 .h4 rfl)<|wA rfl<|QA (Q7 rfl NH Zl (.cons (vs:=[_,_,_,_]) rfl rfl rfl .h4 (.cons (vs:=[_]) rfl rfl rfl (.skip (.skip (.skip (.skip .h1)))) .nil)))<|HZ (k:=Yu p) (v:=AV ⟨x,r,(f,p)⟩) SM rfl rfl rfl NP .u2<|QE<|Dy ?_
  exact Y5 (⟨x,r,(f,p)⟩) rfl .nil (rfl) (fun w h=>by
   show St ⟨w0,F0,(m,ZD tx (Wo (addN ts ⟨x,r,(f,p)⟩)))::bs,_⟩ w
   rw [NW]
   exact St.imp h (.cons _ (.cons _ wG)) (fun F ⟨⟨hG0,hGl,hT,⟨hxn,hxd⟩,hR⟩,_⟩=>⟨hG0,fun t ht=>by
    rcases NT ht with rfl | ht
    ·exact⟨⟨by assumption,by assumption⟩,hR⟩
    ·exact hT t ht,by rw [hc0,aI]⟩))
theorem BZ {ts:List XU} {l:List Tm} {m:Nat} {x:Fr} {f:Rat} {r:Sr} {p:List Int} (hI:VE ts l) (hp:PW p) (hz:JL f≤40000000) (hl:Zh l≤40000000) (hG:∀ F,G F→JB F∧Vh F ts∧JY F x f∧JR F r p) :
  XD Tryz.prog 210 [.map (some m),x.v,r.v] ⟨w0,F0,(m,ZD tx (Wo ts))::bs,G⟩ (fun(_:XU)=>.tuple #[]) (fun n=>⟨w0,F0,(m,ZD tx (Wo (addN ts n)))::bs,fun F=>G F∧Vh F (addN ts n)∧n.t=(f+Jh (JG ts) p,p)⟩):=by
 rcases zQ ts p 0 with ⟨h1,h2⟩ | ⟨j,t,ht,h1,h2⟩
 ·exact S9 hI hp hz hl hG h1 h2
 ·exact U8 hI hp hz hl hG ht h1 h2
end
section
variable [Dr]
theorem jB {w:ar} {F:Gs} {a b:XU} (hF:Fits F w) (hA:Sx F a) (hB:Sx F b) (pa:PW a.t.2) (pb:PW b.t.2):QZ Tryz.prog 253 [AV a,AV b] w F (.int .i64 (VH a.t.2 b.t.2)):=by
 refine QT.intro (G:=fun F=>Sx F a∧Sx F b) Tryz.func253 rfl (by rfl) rfl rfl hF (fun F' hF'=>⟨hA.le hF',hB.le hF'⟩)<|wE<|Q2 rfl (vs:=[_,_,_,_,_]) rfl (fun b2=>Q2 rfl (vs:=[_,_,_,_,_]) rfl (fun b3=>wD rfl<|wE<|QA (QI rfl X8 Qv)<|QA (Qm rfl Qv .u1 (.skip (.skip (.skip (.skip .h1)))))<|QA (QI rfl X8 Qv)<|QA (Qm rfl Qv .here (.skip (.skip (.skip (.skip .h1)))))<|QH rfl (fun w F hF h9=>BA hF (ra:=a.r) (rb:=b.r) h9.1.2 (h9.2.2) (pa) (pb)) (fun _=>wD rfl<|QS ?_)))
 exact wH rfl rfl (rfl) (fun F h9=>trivial)
end
end Go.Proofs.YtknegjaeoffnbaaGreatDoor
namespace Go.Proofs
open Go.Shelf
def Tryz.Ia:Go.Shelf.Ren:=⟨fun | 14=>213 | 20=>257 | 21=>258 | 22=>259 | 23=>260 | 24=>261 | 25=>262 | 26=>263 | 27=>264 | 46=>290 | 47=>291 | 48=>292 | 49=>293 | 50=>294 | 15=>214 | 57=>311 | 28=>265 | 29=>266 | n=>n,fun | 24=>165 | 22=>156 | 3=>3 | 25=>168 | 4=>4 | 0=>0 | 46=>263 | 45=>262 | 50=>85 | 66=>290 | 39=>232 | 55=>248 | 70=>294 | 76=>308 | 77=>309 | 53=>269 | 5=>5 | 9=>9 | n=>n,fun | n=>n⟩
theorem Tryz.xp:Go.Proofs.SlLaysF0.n14 Tryz.prog Tryz.Ia:={
 mixed:=by kernel_rfl
 f14:=⟨Tryz.f213.name,by decide,Tryz.func213.trans (congrArg some (by kernel_rfl))⟩
 f15:=Tryz.func214.trans (congrArg some (by kernel_rfl))
 f20:=⟨Tryz.f257.name,by decide,Tryz.func257.trans (congrArg some (by kernel_rfl))⟩
 f21:=⟨Tryz.f258.name,by decide,Tryz.func258.trans (congrArg some (by kernel_rfl))⟩
 f22:=⟨Tryz.f259.name,by decide,Tryz.func259.trans (congrArg some (by kernel_rfl))⟩
 f23:=⟨Tryz.f260.name,by decide,Tryz.func260.trans (congrArg some (by kernel_rfl))⟩
 f24:=⟨Tryz.f261.name,by decide,Tryz.func261.trans (congrArg some (by kernel_rfl))⟩
 f25:=⟨Tryz.f262.name,by decide,Tryz.func262.trans (congrArg some (by kernel_rfl))⟩
 f26:=⟨Tryz.f263.name,by decide,Tryz.func263.trans (congrArg some (by kernel_rfl))⟩
 f27:=⟨Tryz.f264.name,by decide,Tryz.func264.trans (congrArg some (by kernel_rfl))⟩
 f28:=Tryz.func265.trans (congrArg some (by kernel_rfl))
 f29:=Tryz.func266.trans (congrArg some (by kernel_rfl))
 f46:=⟨Tryz.f290.name,by decide,Tryz.func290.trans (congrArg some (by kernel_rfl))⟩
 f47:=Tryz.func291.trans (congrArg some (by kernel_rfl))
 f48:=Tryz.func292.trans (congrArg some (by kernel_rfl))
 f49:=⟨Tryz.f293.name,by decide,Tryz.func293.trans (congrArg some (by kernel_rfl))⟩
 f50:=⟨Tryz.f294.name,by decide,Tryz.func294.trans (congrArg some (by kernel_rfl))⟩
 f57:=⟨Tryz.f311.name,by decide,Tryz.func311.trans (congrArg some (by kernel_rfl))⟩
 t0:=Tryz.underlying0
 a0:=Tryz.isAgg0
 z0:=Tryz.sizeOf0
 v0:=Tryz.zeroValue0
 t3:=Tryz.underlying3
 a3:=Tryz.isAgg3
 z3:=Tryz.sizeOf3
 v3:=Tryz.zeroValue3
 t4:=Tryz.underlying4
 a4:=Tryz.isAgg4
 z4:=Tryz.sizeOf4
 v4:=Tryz.zeroValue4
 t5:=Tryz.underlying5
 a5:=Tryz.isAgg5
 z5:=Tryz.sizeOf5
 v5:=Tryz.zeroValue5
 t9:=Tryz.underlying9
 a9:=Tryz.isAgg9
 z9:=Tryz.sizeOf9
 v9:=Tryz.zeroValue9
 t22:=Tryz.underlying156
 a22:=Tryz.isAgg156
 z22:=Tryz.sizeOf156
 v22:=Tryz.zeroValue156
 t25:=Tryz.underlying168
 a25:=Tryz.isAgg168
 z25:=Tryz.sizeOf168
 v25:=Tryz.zeroValue168
 t39:=Tryz.underlying232
 a39:=Tryz.isAgg232
 z39:=Tryz.sizeOf232
 v39:=Tryz.zeroValue232
 t45:=Tryz.underlying262
 a45:=Tryz.isAgg262
 z45:=Tryz.sizeOf262
 v45:=Tryz.zeroValue262
 t46:=Tryz.underlying263
 a46:=Tryz.isAgg263
 z46:=Tryz.sizeOf263
 v46:=Tryz.zeroValue263
 t50:=Tryz.underlying85
 a50:=Tryz.isAgg85
 z50:=Tryz.sizeOf85
 v50:=Tryz.zeroValue85
 t53:=Tryz.underlying269
 a53:=Tryz.isAgg269
 z53:=Tryz.sizeOf269
 v53:=Tryz.zeroValue269
 t55:=Tryz.underlying248
 a55:=Tryz.isAgg248
 z55:=Tryz.sizeOf248
 v55:=Tryz.zeroValue248
 t66:=Tryz.underlying290
 a66:=Tryz.isAgg290
 z66:=Tryz.sizeOf290
 v66:=Tryz.zeroValue290
 t70:=Tryz.underlying294
 a70:=Tryz.isAgg294
 z70:=Tryz.sizeOf294
 v70:=Tryz.zeroValue294
 t76:=Tryz.underlying308
 a76:=Tryz.isAgg308
 z76:=Tryz.sizeOf308
 v76:=Tryz.zeroValue308
 t77:=Tryz.underlying309
 a77:=Tryz.isAgg309
 z77:=Tryz.sizeOf309
 v77:=Tryz.zeroValue309 }
end Go.Proofs
