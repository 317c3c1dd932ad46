/- Steps of the proof of the theorem in the last file. -/
import Derived.Test.YtknegjaeoffnbaaGreatDoorP1
import Derived.MapKept
import Derived.Maps.RangeRun
import Derived.Lib.ItoaLen
set_option linter.all false
set_option maxHeartbeats 4000000
namespace Go.Proofs.YtknegjaeoffnbaaGreatDoor
section
open Go.RowKit Ig
def PC (b:Int):Int:=if b<0∨b>64 then 3 else 0
theorem YS {a b:Int} (h:Qm [a,b]=0):a=0∧b=0:=by
 simp only [Qm] at h
 by_cases h1:a=0
 ·rw [if_pos h1] at h
  by_cases h2:b=0
  ·exact⟨h1,h2⟩
  ·rw [if_neg h2] at h;exact absurd h h2
 ·rw [if_neg h1] at h;exact absurd h h1
theorem FP {b:Int} (h:PC b=0):0≤b∧b≤64:=by unfold PC at h;split at h<;>omega
def two (b:Int):Int:=2^b.toNat
theorem Le {b:Int} (h1:b≤64):sz (two b)≤129:=by
 have:=Hg 2 b.toNat;have e:sz 2=2:=(by decide);rw [e] at this;unfold two;omega
theorem RN {b:Int} (h1:b≤64):JO ((two b:Int):Rat)≤129:=by
 have:=Ep (two b);have:=Le h1;omega
def OU (r:Rat) (b:Int):Rat:=Rat.divInt (r*((two b:Int):Rat)+Rat.divInt 1 2).floor (two b)
def TQ (s:List UInt8) (b:Int):List UInt8×Int:=if Qm [Ja s,PC b]=0 then NP (OU (Jk s) b) else([],Qm [Ja s,PC b])
theorem xr (b:Int):two b≠0:=Int.ne_of_gt (Int.pow_pos (by decide))
theorem Fh:JO (Rat.divInt 1 2)≤2:=by
 have:=Ym (a:=1) (b:=2) (by decide)
 have e1:sz 1=1:=by decide
 have e2:sz 2=2:=by decide
 omega
theorem qT {r:Rat} {b:Int} {k:Nat} (h:JO r≤k) (h1:b≤64):sz (r*((two b:Int):Rat)+Rat.divInt 1 2).floor≤k+132:=by
 have a:=XJ r ((two b:Int):Rat)
 have c:=Vc (r*((two b:Int):Rat)) (Rat.divInt 1 2)
 have d:=Fh
 have e:=RN h1
 have f:=Mo (r*((two b:Int):Rat)+Rat.divInt 1 2)
 omega
theorem Mm {n b:Int} {k:Nat} (h:sz n≤k) (h1:b≤64):JO (Rat.divInt n (two b))≤max k 129:=by
 have:=Ym (a:=n) (xr b)
 have:=Le h1
 omega
theorem IA {w:World} {F:Gs} {s:List UInt8} {b:Int} (hF:Fits F w) (hG:JC F) (hl:s.length≤1000000):Qc Tryz.prog 17 [tx s,.int .i64 b] w F (.tuple #[tx (TQ s b).1,.int .i64 (TQ s b).2]):=by
 refine QT.intro (G:=fun F=>JC F) Tryz.func17 rfl (by rfl) rfl rfl hF (fun F' hF'=>hG.le hF')<|J_sr<|JS_as rfl<|JS_as rfl<|JS_nt<|QG<|J_sr<|JS_mv rfl<|QH rfl (fun w F hF hGl=>E8 hF hGl hl) (fun _=>JS_mv rfl<|QH rfl (fun w F hF h9=>T9 hF ) (fun _=>QW rfl (Q7 Zj) Y1 H7 rfl rfl (fun b11=>QH rfl (fun w F hF h9=>Z5 hF (Q4.of (cs:=List.map Qx [Ja s,PC b]) h9.2 rfl) (by decide)) (fun _=>JS_as rfl<|JS_nt<|J_sr<|JS_mv rfl<|QA (QU rfl rfl rfl)<|QE<|QC ?_))))
 refine QP rfl (fun hc=>?_) (fun hc=>?_)
 ·
  refine J_sr<|JS_mv rfl<|JS_as rfl<|JS_as rfl<|JS_nt<|QS ?_
  exact JX () rfl (.tmp rfl (.tmp rfl .nil)) (by unfold TQ;rw [if_neg (by simpa using hc)]) (fun _ _=>trivial)
 ·
  have h0:Qm [Ja s,PC b]=0:=by simpa using hc
  have h1:=YS h0
  have hb:=FP h1.2
  have hz:=XR h1.1
  have ht:=RN hb.2
  have hm:=XJ (Jk s) ((two b:Int):Rat)
  have hn:=qT hz hb.2
  refine QO<|QC<|J_sr<|JS_mv rfl<|QH rfl (fun w F hF h9=>Gv hF h9.1.1.1.1 (ZO h1.1).1 (by omega)) (fun x17=>JS_mv rfl<|QH rfl (fun w F hF h9=>AL hF hb.1 hb.2) (fun g19=>QH rfl (fun w F hF ⟨⟨⟨⟨⟨⟨hGl,_⟩,_⟩,hs11⟩,_⟩,⟨h17,h17_⟩⟩,SV⟩=>BB hF (by assumption)) (fun x20=>QH rfl (fun w F hF h9=>KK (r:=Jk s) (s:=((two b:Int):Rat)) hF ⟨h9.1.1.2.1,h9.1.1.2.2⟩ ⟨h9.2.1,h9.2.2⟩ (by omega) (by omega)) (fun x21=>QH rfl (fun w F hF h9=>Ou (r:=Jk s*((two b:Int):Rat)) hF ⟨h9.2.1,h9.2.2⟩ (by omega)) (fun g22=>JS_mv rfl<|QH rfl (fun w F hF h9=>M7 (a:=(Jk s*((two b:Int):Rat)+Rat.divInt 1 2).floor) hF h9.2 hb.1 hb.2 (by omega)) (fun x24=>QH rfl (fun w F hF h9=>IP (r:=OU (Jk s) b) hF h9.1.1.1.1.1.1.1.1.1.1 ⟨h9.2.1,h9.2.2⟩ (by have:=Mm hn hb.2;unfold OU;omega)) (fun _=>QA (QK rfl rfl)<|QA (QK rfl rfl)<|JS_as rfl<|JS_as rfl<|JS_nt<|QS ?_)))))))
  exact JX () rfl (.tmp rfl (.tmp rfl .nil)) (by unfold TQ;rw [if_pos h0];rfl) (fun _ _=>trivial)
def XD (lo hi:List UInt8):Int:=if Qm [Ja lo,Ja hi]=0 then(if DY (Jk lo) (Jk hi)>0 then 11 else 0) else Qm [Ja lo,Ja hi]
theorem Yv {lo hi:List UInt8} (h:XD lo hi=0):Ja lo=0∧Ja hi=0∧¬ DY (Jk lo) (Jk hi)>0:=by
 unfold XD at h
 split at h
 ·rename_i h0
  have:=YS h0
  refine⟨this.1,this.2,?_⟩
  split at h
  ·cases h
  ·assumption
 ·rename_i h0;exact absurd h h0
theorem KN {w:World} {F:Gs} {lo hi:List UInt8} (hF:Fits F w) (hG:JC F) (hl:lo.length≤1000000∧hi.length≤1000000):Qc Tryz.prog 22 [.agg #[tx lo,tx hi]] w F (.int .i64 (XD lo hi)):=by
 refine QT.intro (G:=fun F=>JC F) Tryz.func22 rfl (by rfl) rfl rfl hF (fun F' hF'=>hG.le hF')<|J_sr<|Q5 rfl (vs:=[_,_]) rfl (fun b1=>JS_as rfl<|JS_nt<|QG<|J_sr<|QA (QI rfl Eb Jy)<|QA (Qo rfl Jy .here (.here .nil))<|QA (QI rfl Ea Jy)<|QA (Qo rfl Jy .here (.skip (.here .nil)))<|QW rfl (Q7 Hz) Jy ki rfl rfl (fun b8=>QH rfl (fun w F hF ⟨hGl,hs8⟩=>FO (l:=[lo,hi]) hF hGl (Q4.of (cs:=List.map tx [lo,hi]) hs8 rfl) ⟨by decide,fun s hs=>by simp at hs;rcases hs with rfl | rfl;exact hl.1;exact hl.2⟩) (fun _=>JS_as rfl<|JS_nt<|J_sr<|JS_mv rfl<|QA (QU rfl rfl rfl)<|QE<|QC ?_)))
 refine QP rfl (fun hc=>?_) (fun hc=>?_)
 ·
  refine J_sr<|JS_mv rfl<|JS_as rfl<|JS_nt<|QS ?_
  exact QR () rfl (.tmp rfl .nil) (by unfold XD;rw [if_neg (by simpa using hc)];rfl) (fun _ _=>trivial)
 ·
  have h0:Qm [Ja lo,Ja hi]=0:=by simpa using hc
  have h1:=YS h0
  have hz1:=XR h1.1
  have hz2:=XR h1.2
  refine QO<|QC<|QG<|JR subl_r mixed (by kernel_rfl)<|QM (QI rfl Eb Jy)<|QM (Qo rfl Jy .here (.here .nil))<|Qg rfl (fun w F hF h9=>Gv hF h9.1.1 (ZO h1.1).1 (by omega)) (fun x15=>QM (QI rfl Ea Jy)<|QM (Qo rfl Jy .here (.skip (.here .nil)))<|Qg rfl (fun w F hF h9=>Gv hF h9.1.1.1 (ZO h1.2).1 (by omega)) (fun x18=>Qg rfl (fun w F hF h9=>AQ (r:=Jk lo) (s:=Jk hi) hF ⟨h9.1.2.1,h9.1.2.2⟩ ⟨h9.2.1,h9.2.2⟩ (by omega) (by omega)) (fun _=>QM (QU rfl rfl rfl)<|Qg rfl (fun w F hF h9=>Zn hF ) (fun _=>QM (QF rfl)<|Q9<|QC<|QS ?_))))
  exact QR () rfl (.tmp rfl .nil) (congrArg (Value.int .i64) (by unfold XD;rw [if_pos h0];simp)) (fun _ _=>trivial)
structure Sp where
 lo:Fr
 hi:Fr
@[reducible] def Sp.v (x:Sp):Value:=.agg #[.int .i64 x.lo.n.s,.slice x.lo.n.q x.lo.n.n x.lo.n.cap,.int .i64 x.lo.d.s,.slice x.lo.d.q x.lo.d.n x.lo.d.cap,.int .i64 x.hi.n.s,.slice x.hi.n.q x.hi.n.n x.hi.n.cap,.int .i64 x.hi.d.s,.slice x.hi.d.q x.hi.d.n x.hi.d.cap]
def ZP (F:Gs) (x:Sp) (r:Rat×Rat):Prop:=JV F x.lo r.1∧JV F x.hi r.2
theorem ZP.le {F F':Gs} {x:Sp} {r:Rat×Rat} (h:ZP F x r) (k:Gs.le F F'):ZP F' x r:=⟨h.1.le k,h.2.le k⟩
abbrev VC (P:Program) (f:FuncId) (args:List Value) (w:World) (F:Gs) (r:Rat×Rat):Prop:=QT P f args w F Sp.v (fun x F=>ZP F x r)
theorem M6 {w:World} {F:Gs} {lo hi:List UInt8} (hF:Fits F w) (hG:JC F) (h1:Ja lo=0) (h2:Ja hi=0) (hl:lo.length≤1000000∧hi.length≤1000000):VC Tryz.prog 113 [.agg #[tx lo,tx hi]] w F (Jk lo,Jk hi):=by
 refine QT.intro (G:=fun F=>JC F) Tryz.func113 rfl (by rfl) rfl rfl hF (fun F' hF'=>hG.le hF')<|J_sr<|Q5 rfl (vs:=[_,_]) rfl (fun b1=>Qf Y0 (fun b2=>JS_nt<|QG<|JR (.cons _ (.cons_cons _ .slnil)) mixed (by kernel_rfl)<|QM (QI rfl Eb Jy)<|QM (Qo rfl Jy .here (.here .nil))<|Qg rfl (fun w F hF hGl=>Gv hF hGl (ZO h1).1 (by omega)) (fun x5=>QM (QI rfl Ea Jy)<|QM (Qo rfl Jy .here (.skip (.here .nil)))<|Qg rfl (fun w F hF h9=>Gv hF h9.1 (ZO h2).1 (by omega)) (fun x8=>QM (Q6 rfl Rj Y0 (.cons (vs:=[_,_,_,_]) rfl rfl rfl (.here (.here (.here (.here .nil)))) (.cons (vs:=[_,_,_,_]) rfl rfl rfl (.skip (.skip (.skip (.skip (.here (.here (.here (.here .nil)))))))) .nil)))<|Jh (vs:=[_,_,_,_,_,_,_,_]) rfl rfl rfl XG rfl .here (.cons_cons _ .slnil) (fun _ h=>h.1.1) (.here (.here (.here (.here (.here (.here (.here (.here .nil)))))))) ⟨rfl,rfl,rfl,rfl,rfl,rfl,rfl,rfl,trivial⟩<|Q9<|QC<|QS ?_))))
 exact QR ((⟨x5,x8⟩:Sp)) rfl (.Jc (c:=[_,_,_,_,_,_,_,_]) rfl XG .here .nil) rfl (fun F h9=>⟨⟨h9.1.2.1,h9.1.2.2⟩,⟨h9.2.1,h9.2.2⟩⟩)
def V6 (r:Rat×Rat):(List UInt8×List UInt8)×Int:=if(XP r.1||XP r.2)=true then(([],[]),4) else((Jg r.1,Jg r.2),0)
theorem Es {w:World} {F:Gs} {x:Sp} {r:Rat×Rat} (hF:Fits F w) (hG:JC F) (h:ZP F x r) (hz:JO r.1≤100000000∧JO r.2≤100000000):Qc Tryz.prog 116 [x.v] w F (.tuple #[.agg #[tx (V6 r).1.1,tx (V6 r).1.2],.int .i64 (V6 r).2]):=by
 refine QT.intro (G:=fun F=>JC F∧ZP F x r) Tryz.func116 rfl (by rfl) rfl rfl hF (fun F' hF'=>⟨hG.le hF',h.le hF'⟩)<|J_sr<|Q5 rfl (vs:=[_,_,_,_,_,_,_,_]) rfl (fun b1=>Qf Yk (fun b2=>JS_as rfl<|JS_nt<|QG ?_))
 refine VR 11 (.bool (XP r.1||XP r.2)) ?_ ?_
 ·
  refine QB<|QA (QI rfl Zk Qe)<|QA (QL (vs:=[_,_,_,_]) rfl Qe (.there .here) (.here (.here (.here (.here .nil)))) rfl)<|QH rfl (fun w F hF h9=>Bh (x:=x.lo) (r:=r.1) hF h9.1 ⟨h9.2.1.1,h9.2.1.2⟩ hz.1) (fun _=>JS_mv rfl ?_)
  refine Qn (t:=7) rfl (fun hb7=>?_) (fun hb7=>?_)
  ·
   refine QN rfl rfl rfl<|QN rfl rfl rfl<|QN rfl rfl rfl<|QA (Qj rfl rfl rfl)<|QE ?_
   exact Jo (exd 9 rfl rfl) (congrArg (fun b=>some (Value.bool b)) (by simp_all)) subl_r (fun _ h=>h.1)
  ·
   refine QJ rfl rfl<|QA (QI rfl Z7 Qe)<|QJ rfl rfl<|QA (QL (vs:=[_,_,_,_]) rfl Qe (.there .here) (.skip (.skip (.skip (.skip (.here (.here (.here (.here .nil)))))))) rfl)<|QJ rfl rfl<|QH rfl (fun w F hF h9=>Bh (x:=x.hi) (r:=r.2) hF h9.1.1 ⟨h9.1.2.2.1,h9.1.2.2.2⟩ hz.2) (fun _=>QA (Qh rfl rfl rfl)<|QE ?_)
   exact Jo (exd 9 rfl rfl) (congrArg (fun b=>some (Value.bool b)) (by simp_all)) subl_r (fun _ h=>h.1.1)
 ·
  refine QP rfl (fun hc=>?_) (fun hc=>?_)
  ·
   refine J_sr<|QA (Q6 rfl KI Yk .nil)<|QQ (vs:=[_,_]) rfl rfl rfl Js rfl .here (.here (.here .nil)) ⟨rfl,rfl,trivial⟩<|JS_as rfl<|JS_nt<|QS ?_
   exact JX () rfl (.Jc (c:=[_,_]) rfl Js .here (.tmp rfl .nil)) (by unfold V6;rw [if_pos hc];rfl) (fun _ _=>trivial)
  ·
   refine QO<|QC<|QG<|JR (.cons _ (.cons_cons _ .slnil)) mixed (by kernel_rfl)<|QM (QI rfl Zk Qe)<|QM (QL (vs:=[_,_,_,_]) rfl Qe .here (.here (.here (.here (.here .nil)))) rfl)<|Qg rfl (fun w F hF h9=>E2 (x:=x.lo) (r:=r.1) hF h9.1 ⟨h9.2.1.1,h9.2.1.2⟩ hz.1) (fun _=>QM (QI rfl Z7 Qe)<|QM (QL (vs:=[_,_,_,_]) rfl Qe .here (.skip (.skip (.skip (.skip (.here (.here (.here (.here .nil)))))))) rfl)<|Qg rfl (fun w F hF h9=>E2 (x:=x.hi) (r:=r.2) hF h9.1.1 ⟨h9.1.2.2.1,h9.1.2.2.2⟩ hz.2) (fun _=>QM (Q6 rfl KI Yk (.cons (vs:=[_]) rfl rfl rfl (.here .nil) (.cons (vs:=[_]) rfl rfl rfl (.skip (.here .nil)) .nil)))<|Jh (vs:=[_,_]) rfl rfl rfl Js rfl .here (.cons_cons _ .slnil) (fun _ h=>h.1.1) (.here (.here .nil)) ⟨rfl,rfl,trivial⟩<|QM (QF rfl)<|Q9<|QC<|QS ?_))
   exact JX () rfl (.Jc (c:=[_,_]) rfl Js .here (.tmp rfl .nil)) (by unfold V6;rw [if_neg (by rw [hc];decide)]) (fun _ _=>trivial)
def va (r:Rat×Rat) (b:Int):Rat×Rat:=(Rat.divInt (r.1*((two b:Int):Rat)).floor (two b),Rat.divInt (-(-(r.2*((two b:Int):Rat))).floor) (two b))
def F6 (lo hi:List UInt8) (b:Int):(List UInt8×List UInt8)×Int:=if Qm [XD lo hi,PC b]=0 then V6 (va (Jk lo,Jk hi) b) else(([],[]),Qm [XD lo hi,PC b])
theorem F5 {w:World} {F:Gs} {lo hi:List UInt8} {b:Int} (hF:Fits F w) (hG:JC F) (hl:lo.length≤1000000∧hi.length≤1000000):Qc Tryz.prog 18 [.agg #[tx lo,tx hi],.int .i64 b] w F (.tuple #[.agg #[tx (F6 lo hi b).1.1,tx (F6 lo hi b).1.2],.int .i64 (F6 lo hi b).2]):=by
 refine QT.intro (G:=fun F=>JC F) Tryz.func18 rfl (by rfl) rfl rfl hF (fun F' hF'=>hG.le hF')<|J_sr<|Q5 rfl (vs:=[_,_]) rfl (fun b2=>Qf Yk (fun b4=>JS_as rfl<|JS_nt<|QG<|J_sr<|QA (QL (vs:=[_,_]) rfl Js (.there .here) (.here (.here .nil)) rfl)<|QH rfl (fun w F hF hGl=>KN (lo:=lo) (hi:=hi) hF hGl hl) (fun _=>JS_mv rfl<|QH rfl (fun w F hF h9=>T9 hF ) (fun _=>QW rfl (Q7 Zj) Y1 H7 rfl rfl (fun b13=>QH rfl (fun w F hF h9=>Z5 hF (Q4.of (cs:=List.map Qx [XD lo hi,PC b]) h9.2 rfl) (by decide)) (fun _=>JS_as rfl<|JS_nt<|J_sr<|JS_mv rfl<|QA (QU rfl rfl rfl)<|QE ?_))))))
 refine QC ?_
 refine QP rfl (fun hc=>?_) (fun hc=>?_)
 ·
  refine J_sr<|QA (Q6 rfl KI Yk .nil)<|JS_mv rfl<|QQ (vs:=[_,_]) rfl rfl rfl Js rfl .here (.here (.here .nil)) ⟨rfl,rfl,trivial⟩<|JS_as rfl<|JS_nt<|QS ?_
  exact JX () rfl (.Jc (c:=[_,_]) rfl Js .here (.tmp rfl .nil)) (by unfold F6;rw [if_neg (by simpa using hc)];rfl) (fun _ _=>trivial)
 ·
  have h0:Qm [XD lo hi,PC b]=0:=by simpa using hc
  have h1:=YS h0
  have hok:=Yv h1.1
  have hb:=FP h1.2
  have hz1:=XR hok.1
  have hz2:=XR hok.2.1
  have ht:=RN hb.2
  have hm1:=XJ (Jk lo) ((two b:Int):Rat)
  have hm2:=XJ (Jk hi) ((two b:Int):Rat)
  have hf1:=Mo (Jk lo*((two b:Int):Rat))
  have hf2:=Mo (-(Jk hi*((two b:Int):Rat)))
  rw [Eo] at hf2
  have hg1:=Mm (n:=(Jk lo*((two b:Int):Rat)).floor) (k:=2529) (by omega) hb.2
  have hg2:=Mm (n:=-(-(Jk hi*((two b:Int):Rat))).floor) (k:=2529) (by rw [YQ];omega) hb.2
  refine QO<|QC<|J_sr<|QA (QL (vs:=[_,_]) rfl Js (.there .here) (.here (.here .nil)) rfl)<|QH rfl (fun w F hF h9=>M6 hF h9.1.1.1.1 hok.1 hok.2.1 hl) (fun x20=>JS_mv rfl<|QH rfl (fun w F hF h9=>AL hF hb.1 hb.2) (fun g22=>QH rfl (fun w F hF ⟨⟨⟨⟨⟨⟨hGl,_⟩,_⟩,hs13⟩,_⟩,⟨⟨h20,h20_⟩,⟨h20a,h20b⟩⟩⟩,h22⟩=>BB hF (by assumption)) (fun x23=>Qf Y0 (fun b7=>Qf Xp (fun b8=>QQ (vs:=[_,_,_,_,_,_,_,_]) rfl rfl rfl XG rfl (.there .here) (.here (.here (.here (.here (.here (.here (.here (.here .nil)))))))) ⟨rfl,rfl,rfl,rfl,rfl,rfl,rfl,rfl,trivial⟩<|QQ (vs:=[_,_,_,_]) rfl rfl rfl Qe rfl .here (.here (.here (.here (.here .nil)))) ⟨rfl,rfl,rfl,rfl,trivial⟩<|JS_nt<|QG<|JR (.cons_cons _ (.cons_cons _ (.cons _ (.cons_cons _ .slnil)))) mixed (by kernel_rfl)<|QM (QI rfl Zk Qe)<|QM (QL (vs:=[_,_,_,_]) rfl Qe (.there .here) (.here (.here (.here (.here .nil)))) rfl)<|QM (QL (vs:=[_,_,_,_]) rfl Qe .here (.here (.here (.here (.here .nil)))) rfl)<|Qg rfl (fun w F hF h9=>KK (r:=Jk lo) (s:=((two b:Int):Rat)) hF ⟨h9.1.1.2.1.1,h9.1.1.2.1.2⟩ ⟨h9.2.1,h9.2.2⟩ (by omega) (by omega)) (fun x27=>Qg rfl (fun w F hF h9=>NU (r:=Jk lo*((two b:Int):Rat)) hF ⟨h9.2.1,h9.2.2⟩ (by omega)) (fun g28=>QM (QD rfl)<|Qg rfl (fun w F hF h9=>M7 (a:=(Jk lo*((two b:Int):Rat)).floor) hF h9.2 hb.1 hb.2 (by omega)) (fun x30=>QM (QI rfl Z7 Qe) ?_))))))))
  refine QM (QL (vs:=[_,_,_,_]) rfl Qe (.there .here) (.skip (.skip (.skip (.skip (.here (.here (.here (.here .nil)))))))) rfl)<|QM (QL (vs:=[_,_,_,_]) rfl Qe .here (.here (.here (.here (.here .nil)))) rfl)<|Qg rfl (fun w F hF h9=>KK (r:=Jk hi) (s:=((two b:Int):Rat)) hF ⟨h9.1.1.1.1.1.2.2.1,h9.1.1.1.1.1.2.2.2⟩ ⟨h9.1.1.1.2.1,h9.1.1.1.2.2⟩ (by omega) (by omega)) (fun x34=>Qg rfl (fun w F hF h9=>jD (r:=Jk hi*((two b:Int):Rat)) hF ⟨h9.2.1,h9.2.2⟩ (by omega)) (fun g35=>QM (QD rfl)<|Qg rfl (fun w F hF h9=>M7 (a:=-(-(Jk hi*((two b:Int):Rat))).floor) hF h9.2 hb.1 hb.2 (by rw [YQ];omega)) (fun x37=>QM (Q6 rfl Rj Y0 (.cons (vs:=[_,_,_,_]) rfl rfl rfl (.here (.here (.here (.here .nil)))) (.cons (vs:=[_,_,_,_]) rfl rfl rfl (.skip (.skip (.skip (.skip (.here (.here (.here (.here .nil)))))))) .nil)))<|Qg rfl (fun w F hF h9=>Es (x:=⟨x30,x37⟩) (r:=va (Jk lo,Jk hi) b) hF h9.1.1.1.1.1.1.1.1.1.1.1.1.1 ⟨⟨h9.1.1.1.2.1,h9.1.1.1.2.2⟩,⟨h9.2.1,h9.2.2⟩⟩ ⟨Nat.le_trans hg1 (by decide),Nat.le_trans hg2 (by decide)⟩) (fun _=>QM (QK rfl rfl)<|QM (QK rfl rfl)<|Jh (vs:=[_,_]) rfl rfl rfl Js rfl (.there (.there .here)) (.cons_cons _ (.cons_cons _ (.cons_cons _ .slnil))) (fun _ h=>h.1.1.1.1.1.1.1) (.here (.here .nil)) ⟨rfl,rfl,trivial⟩<|QM (QF rfl)<|Q9<|QC<|QS ?_))))
  exact JX () rfl (.Jc (c:=[_,_]) rfl Js (.there (.there .here)) (.tmp rfl .nil)) (by unfold F6;rw [if_pos h0];rfl) (fun _ _=>trivial)
end
section
open Go.RowKit Ig
def Yl (s:Rat×Rat) (x:Rat):Rat×Rat:=(if DY x s.1<0 then x else s.1,if DY x s.2>0 then x else s.2)
def Kz (r:Rat) (l:List Rat):Rat×Rat:=l.foldl Yl (r,r)
def UR (x:Fr):List Value:=[.int .i64 x.n.s,.slice x.n.q x.n.n x.n.cap,.int .i64 x.d.s,.slice x.d.q x.d.n x.d.cap]
theorem R8 {α:Type} {f:α→List Value} {k:Nat} (hf:∀ x,(f x).length=k):∀ (l:List α) (i j:Nat) (h:i<l.length),j<k→(l.flatMap f)[i*k+j]?=(f l[i])[j]?
 |[],_,_,h,_=>by simp at h
 |x::l,0,j,_,hj=>by
  rw [List.flatMap_cons,Nat.zero_mul,Nat.zero_add,List.getElem?_append,if_pos (by rw [hf];exact hj)];rfl
 |x::l,i+1,j,h,hj=>by
  rw [List.flatMap_cons,List.getElem?_append,if_neg (by rw [hf,Nat.add_mul];omega),hf]
  have:=R8 hf l i j (by simpa using h) hj
  rw [show(i+1)*k+j - k=i*k+j by rw [Nat.add_mul];omega,this];rfl
theorem IS {α:Type} {f:α→List Value} {k:Nat} (hf:∀ x,(f x).length=k) (l:List α):(l.flatMap f).length=l.length*k:=by
 induction l with
 |nil=>simp
 |cons x l ih=>rw [List.flatMap_cons,List.length_append,hf,ih,List.length_cons,Nat.add_mul];omega
theorem LR {s:Rat×Rat} {x:Rat} {k:Nat} (h:JO s.1≤k∧JO s.2≤k) (hx:JO x≤k):JO (Yl s x).1≤k∧JO (Yl s x).2≤k:=by
 unfold Yl
 refine⟨?_,?_⟩
 ·show JO (if _ then _ else _)≤k
  split
  ·exact hx
  ·exact h.1
 ·show JO (if _ then _ else _)≤k
  split
  ·exact hx
  ·exact h.2
theorem Gj {k:Nat}:∀ (l:List Rat) (s:Rat×Rat),(JO s.1≤k∧JO s.2≤k)→(∀ x∈l,JO x≤k)→JO (l.foldl Yl s).1≤k∧JO (l.foldl Yl s).2≤k
 |[],_,h,_=>h
 |x::l,s,h,hx=>Gj l (Yl s x) (LR h (hx x (by simp))) (fun y hy=>hx y (by simp [hy]))
structure yb (n:Nat) (l:List Rat) (r:Rat×Rat) where
 i:Nat
 x:Sp
 s:Rat×Rat
 le:i≤n
 h:s=(l.take i).foldl Yl r
theorem PR {l:List Rat} {i:Nat} (hi:i<l.length) (r:Rat×Rat):(l.take (i+1)).foldl Yl r=Yl ((l.take i).foldl Yl r) l[i]:=by
 rw [List.take_succ_eq_append_getElem hi,List.foldl_append];rfl
theorem KO {w:World} {F:Gs} {x:Fr} {r:Rat} {q:Option Addr} {n c:Nat} {ps:List (Fr×Rat)} (hF:Fits F w) (h:JV F x r) (hR:Q4 F q n 4 (ps.flatMap (fun p=>UR p.1))) (hP:∀ p∈ps,JV F p.1 p.2) (hn:ps.length=n) (hb:n≤1000000) (hz:JO r≤50000000∧∀ p∈ps,JO p.2≤50000000) :
  VC Tryz.prog 152 [x.v,.slice q n c] w F (Kz r (ps.map (·.2))):=by
 have hzl:∀ y∈ps.map (·.2),JO y≤50000000:=fun y hy=>by obtain ⟨p,hp,rfl⟩:=List.mem_map.1 hy;exact hz.2 p hp
 have hml:(ps.map (·.2)).length=n:=by simpa using hn
 refine QT.intro (G:=fun F=>JV F x r∧Q4 F q n 4 (ps.flatMap (fun p=>UR p.1))∧(∀ p∈ps,JV F p.1 p.2)) Tryz.func152 rfl (by rfl) rfl rfl hF (fun F' hF'=>⟨h.le hF',hR.le hF',fun p hp=>(hP p hp).le hF'⟩)<|J_sr<|Q5 rfl (vs:=[_,_,_,_]) rfl (fun b2=>Qf Y0 (fun b4=>JS_nt<|J_sr<|QA (QL (vs:=[_,_,_,_]) rfl Qe (.there .here) (.here (.here (.here (.here .nil)))) rfl)<|QA (QL (vs:=[_,_,_,_]) rfl Qe (.there .here) (.here (.here (.here (.here .nil)))) rfl)<|QA (Q6 rfl Rj Y0 (.cons (vs:=[_,_,_,_]) rfl rfl rfl (.here (.here (.here (.here .nil)))) (.cons (vs:=[_,_,_,_]) rfl rfl rfl (.skip (.skip (.skip (.skip (.here (.here (.here (.here .nil)))))))) .nil)))<|Qf Y0 (fun b5=>QQ (vs:=[_,_,_,_,_,_,_,_]) rfl rfl rfl XG rfl .here (.here (.here (.here (.here (.here (.here (.here (.here .nil)))))))) ⟨rfl,rfl,rfl,rfl,rfl,rfl,rfl,rfl,trivial⟩<|JS_nt<|QG<|J_sr<|JS_mv rfl<|QA (Qi rfl Wg)<|JS_mv rfl<|JS_nt<|QX ?_)))
 refine Xa (ι:=yb n (ps.map (·.2)) (r,r)) (fun i=>[(4,.pointer (some ⟨b4,0,none⟩)),(5,.pointer (some ⟨b5,0,none⟩)),(11,.slice q n c),(12,.int .i64 n),(13,.int .i64 i.i)]) (fun i=>[(b5,.cells #[.int .i64 i.x.lo.n.s,.slice i.x.lo.n.q i.x.lo.n.n i.x.lo.n.cap,.int .i64 i.x.lo.d.s,.slice i.x.lo.d.q i.x.lo.d.n i.x.lo.d.cap,.int .i64 i.x.hi.n.s,.slice i.x.hi.n.q i.x.hi.n.n i.x.hi.n.cap,.int .i64 i.x.hi.d.s,.slice i.x.hi.d.q i.x.hi.d.n i.x.hi.d.cap] 138 (0,0)),(b4,.cells #[.int .i64 0,.slice none 0 0,.int .i64 0,.slice none 0 0,.int .i64 0,.slice none 0 0,.int .i64 0,.slice none 0 0] 138 (0,0))]) (fun i F=>ZP F i.x i.s∧Q4 F q n 4 (ps.flatMap (fun p=>UR p.1))∧(∀ p∈ps,JV F p.1 p.2)) (fun i=>n - i.i)
   ⟨0,⟨x,x⟩,(r,r),Nat.zero_le _,rfl⟩ ⟨rfl,rfl,rfl,rfl,rfl,trivial⟩ (.cons_cons _ (.cons_cons _ (.cons _ subl_r))) (fun F ⟨hX,hR,hP⟩=>⟨⟨hX,hX⟩,hR,hP⟩) (fun i=>?_)
 have hle:=i.le
 have hsi:JO i.s.1≤50000000∧JO i.s.2≤50000000:=by rw [i.h];exact Gj _ _ ⟨hz.1,hz.1⟩ (fun y hy=>hzl y (List.mem_of_mem_take hy))
 refine J_sr<|QA (QU rfl rfl rfl)<|JS_nt<|QG ?_
 refine QP rfl (fun hc=>?_) (fun hc=>?_)
 ·
  have hi:i.i<n:=by simp at hc;omega
  have hil:i.i<ps.length:=by omega
  have hzi:=hz.2 _ (List.getElem_mem hil)
  refine X3 _ (fun w F hF h=>h.2.1.ptr (by omega)) (fun hq=>?_)
  obtain ⟨qb,qo,rfl⟩:=hq
  refine QO<|QC<|QG<|QX<|J_sr<|QA (Qw rfl rfl Wg Qe hi) ?_
  refine QA (DL (vs:=UR ps[i.i].1) rfl Qe (fun F h=>h.2.1) (by omega) rfl (fun j v hv=>by rw [R8 (f:=fun p:Fr×Rat=>UR p.1) (k:=4) (fun _=>rfl) ps i.i j hil (by rcases Nat.lt_or_ge j 4 with g | g;exact g;rw [List.getElem?_eq_none (by simpa [UR] using g)] at hv;cases hv)];exact hv)) ?_
  refine Qf Xp (fun b7=>QQ (vs:=[_,_,_,_]) rfl rfl rfl Qe rfl .here (.here (.here (.here (.here .nil)))) ⟨rfl,rfl,rfl,rfl,trivial⟩<|QE<|QC ?_)
  refine Kj (ι:=Fr) (fun _=>[(4,.pointer (some ⟨b4,0,none⟩)),(5,.pointer (some ⟨b5,0,none⟩)),(7,.pointer (some ⟨b7,0,none⟩)),(11,.slice (some ⟨qb,qo,none⟩) n c),(12,.int .i64 n),(13,.int .i64 i.i)]) (fun y=>(b7,.cells #[.int .i64 ps[i.i].1.n.s,.slice ps[i.i].1.n.q ps[i.i].1.n.n ps[i.i].1.n.cap,.int .i64 ps[i.i].1.d.s,.slice ps[i.i].1.d.q ps[i.i].1.d.n ps[i.i].1.d.cap] 130 (0,0))::[(b5,.cells #[.int .i64 y.n.s,.slice y.n.q y.n.n y.n.cap,.int .i64 y.d.s,.slice y.d.q y.d.n y.d.cap,.int .i64 i.x.hi.n.s,.slice i.x.hi.n.q i.x.hi.n.n i.x.hi.n.cap,.int .i64 i.x.hi.d.s,.slice i.x.hi.d.q i.x.hi.d.n i.x.hi.d.cap] 138 (0,0)),(b4,.cells #[.int .i64 0,.slice none 0 0,.int .i64 0,.slice none 0 0,.int .i64 0,.slice none 0 0,.int .i64 0,.slice none 0 0] 138 (0,0))])
    (fun y F=>ZP F ⟨y,i.x.hi⟩ (if DY ps[i.i].2 i.s.1<0 then ps[i.i].2 else i.s.1,i.s.2)∧Q4 F (some ⟨qb,qo,none⟩) n 4 (ps.flatMap (fun p=>UR p.1))∧(∀ p∈ps,JV F p.1 p.2)) ?_ ?_
  ·
   refine J_sr<|QA (QL (vs:=[_,_,_,_]) rfl Qe .here (.here (.here (.here (.here .nil)))) rfl)<|QA (QI rfl Zk Qe)<|QA (QL (vs:=[_,_,_,_]) rfl Qe (.there .here) (.here (.here (.here (.here .nil)))) rfl)<|QH rfl (fun w F hF h9=>AQ (x:=ps[i.i].1) (y:=i.x.lo) (r:=ps[i.i].2) (s:=i.s.1) hF (h9.2.2 _ (List.getElem_mem hil)) h9.1.1 (by omega) (by omega)) (fun _=>QA (QU rfl rfl rfl)<|QE<|QC ?_)
   refine QP rfl (fun hc21=>?_) (fun hc21=>?_)
   ·
    refine QB<|QA (QL (vs:=[_,_,_,_]) rfl Qe .here (.here (.here (.here (.here .nil)))) rfl)<|QA (QI rfl Zk Qe)<|QQ (vs:=[_,_,_,_]) rfl rfl rfl Qe rfl (.there .here) (.here (.here (.here (.here .nil)))) ⟨rfl,rfl,rfl,rfl,trivial⟩<|QE ?_
    exact XE ps[i.i].1 ⟨rfl,rfl,rfl,rfl,rfl,rfl,trivial⟩ subl_r (fun F ⟨⟨hS,hR,hP⟩,_⟩=>⟨⟨by show JV F _ (if _ then _ else _);rw [if_pos (dec_t hc21)];exact hP _ (List.getElem_mem hil),hS.2⟩,hR,hP⟩)
   ·
    refine QO ?_
    exact XE i.x.lo ⟨rfl,rfl,rfl,rfl,rfl,rfl,trivial⟩ subl_r (fun F ⟨⟨hS,hR,hP⟩,_⟩=>⟨⟨by show JV F _ (if _ then _ else _);rw [if_neg (dec_f hc21)];exact hS.1,hS.2⟩,hR,hP⟩)
  ·intro xg5
   refine J_sr<|QA (QL (vs:=[_,_,_,_]) rfl Qe .here (.here (.here (.here (.here .nil)))) rfl)<|QA (QI rfl Z7 Qe)<|QA (QL (vs:=[_,_,_,_]) rfl Qe (.there .here) (.skip (.skip (.skip (.skip (.here (.here (.here (.here .nil)))))))) rfl)<|QH rfl (fun w F hF h9=>AQ (x:=ps[i.i].1) (y:=i.x.hi) (r:=ps[i.i].2) (s:=i.s.2) hF (h9.2.2 _ (List.getElem_mem hil)) h9.1.2 (by omega) (by omega)) (fun _=>QA (QU rfl rfl rfl)<|QE<|QC ?_)
   refine QP rfl (fun hc28=>?_) (fun hc28=>?_)
   ·
    refine QB<|QA (QL (vs:=[_,_,_,_]) rfl Qe .here (.here (.here (.here (.here .nil)))) rfl)<|QA (QI rfl Z7 Qe)<|QQ (vs:=[_,_,_,_]) rfl rfl rfl Qe rfl (.there .here) (.skip (.skip (.skip (.skip (.here (.here (.here (.here .nil)))))))) ⟨rfl,rfl,rfl,rfl,trivial⟩<|QE<|Qk<|QC<|QB<|QA (Qp rfl rfl (by omega))<|JS_mv rfl<|QE ?_
    exact Ql (⟨i.i+1,⟨xg5,ps[i.i].1⟩,Yl i.s ps[i.i].2,by omega,by rw [PR (by omega),← i.h,List.getElem_map]⟩:yb n (ps.map (·.2)) (r,r)) (by show n - (i.i+1)<n - i.i;omega) ⟨rfl,rfl,rfl,rfl,rfl,trivial⟩ (.cons _ subl_r) (fun F ⟨⟨hS,hR,hP⟩,_⟩=>⟨⟨hS.1,by show JV F _ (if _ then _ else _);rw [if_pos (dec_t hc28)];exact hP _ (List.getElem_mem hil)⟩,hR,hP⟩)
   ·
    refine QO<|Qk<|QC<|QB<|QA (Qp rfl rfl (by omega))<|JS_mv rfl<|QE ?_
    exact Ql (⟨i.i+1,⟨xg5,i.x.hi⟩,Yl i.s ps[i.i].2,by omega,by rw [PR (by omega),← i.h,List.getElem_map]⟩:yb n (ps.map (·.2)) (r,r)) (by show n - (i.i+1)<n - i.i;omega) ⟨rfl,rfl,rfl,rfl,rfl,trivial⟩ (.cons _ subl_r) (fun F ⟨⟨hS,hR,hP⟩,_⟩=>⟨⟨hS.1,by show JV F _ (if _ then _ else _);rw [if_neg (dec_f hc28)];exact hS.2⟩,hR,hP⟩)
 ·
  refine Qy ?_
  repeat (first | refine QZ ?_ | refine QV (by rfl) ?_)
  refine Qa<|QC<|J_sr<|QA (QL (vs:=[_,_,_,_,_,_,_,_]) rfl XG .here (.here (.here (.here (.here (.here (.here (.here (.here .nil)))))))) rfl)<|QQ (vs:=[_,_,_,_,_,_,_,_]) rfl rfl rfl XG rfl (.there .here) (.here (.here (.here (.here (.here (.here (.here (.here .nil)))))))) ⟨rfl,rfl,rfl,rfl,rfl,rfl,rfl,rfl,trivial⟩<|JS_nt<|QS ?_
  exact QR (i.x) rfl (.Jc (c:=[_,_,_,_,_,_,_,_]) rfl XG (.there .here) .nil) rfl (fun F h=>by have e:=i.h;rw [List.take_of_length_le (by simp at hc;omega)] at e;show ZP F i.x (List.foldl Yl (r,r) _);rw [← e];exact h.1)
theorem C0 {w:World} {F:Gs} {x y:Sp} {a b:Rat×Rat} (hF:Fits F w) (h:ZP F x a) (h':ZP F y b) (ha:JO a.1≤100000000∧JO a.2≤100000000) (hb:JO b.1≤100000000∧JO b.2≤100000000):VC Tryz.prog 146 [x.v,y.v] w F (a.1+b.1,a.2+b.2):=by
 refine QT.intro (G:=fun F=>ZP F x a∧ZP F y b) Tryz.func146 rfl (by rfl) rfl rfl hF (fun F' hF'=>⟨h.le hF',h'.le hF'⟩)<|J_sr<|Q5 rfl (vs:=[_,_,_,_,_,_,_,_]) rfl (fun b2=>Q5 rfl (vs:=[_,_,_,_,_,_,_,_]) rfl (fun b3=>Qf Y0 (fun b4=>JS_nt<|QG<|JR (.cons _ (.cons_cons _ (.cons_cons _ .slnil))) mixed (by kernel_rfl)<|QM (QI rfl Zk Qe)<|QM (QL (vs:=[_,_,_,_]) rfl Qe (.there .here) (.here (.here (.here (.here .nil)))) rfl)<|QM (QI rfl Zk Qe)<|QM (QL (vs:=[_,_,_,_]) rfl Qe .here (.here (.here (.here (.here .nil)))) rfl)<|Qg rfl (fun w F hF h9=>EZ (x:=x.lo) (y:=y.lo) hF h9.1.1 h9.2.1 ha.1 hb.1) (fun x9=>QM (QI rfl Z7 Qe)<|QM (QL (vs:=[_,_,_,_]) rfl Qe (.there .here) (.skip (.skip (.skip (.skip (.here (.here (.here (.here .nil)))))))) rfl)<|QM (QI rfl Z7 Qe)<|QM (QL (vs:=[_,_,_,_]) rfl Qe .here (.skip (.skip (.skip (.skip (.here (.here (.here (.here .nil)))))))) rfl)<|Qg rfl (fun w F hF h9=>EZ (x:=x.hi) (y:=y.hi) hF h9.1.1.2 h9.1.2.2 ha.2 hb.2) (fun x14=>QM (Q6 rfl Rj Y0 (.cons (vs:=[_,_,_,_]) rfl rfl rfl (.here (.here (.here (.here .nil)))) (.cons (vs:=[_,_,_,_]) rfl rfl rfl (.skip (.skip (.skip (.skip (.here (.here (.here (.here .nil)))))))) .nil)))<|Jh (vs:=[_,_,_,_,_,_,_,_]) rfl rfl rfl XG rfl .here (.cons_cons _ (.cons_cons _ .slnil)) (fun _ h=>h.1.1) (.here (.here (.here (.here (.here (.here (.here (.here .nil)))))))) ⟨rfl,rfl,rfl,rfl,rfl,rfl,rfl,rfl,trivial⟩<|Q9<|QC<|QS ?_)))))
 exact QR (⟨x9,x14⟩:Sp) rfl (.Jc (c:=[_,_,_,_,_,_,_,_]) rfl XG .here .nil) rfl (fun F ⟨⟨⟨hA,hB⟩,⟨h9,h9_⟩⟩,⟨h14,h14_⟩⟩=>⟨⟨h9,h9_⟩,⟨h14,h14_⟩⟩)
def Vn (a b:Rat×Rat):Rat×Rat:=Kz (a.1*b.1) [a.1*b.2,a.2*b.1,a.2*b.2]
theorem Sn {w:World} {F:Gs} {x y:Sp} {a b:Rat×Rat} (hF:Fits F w) (h:ZP F x a) (h':ZP F y b) (ha:JO a.1≤20000000∧JO a.2≤20000000) (hb:JO b.1≤20000000∧JO b.2≤20000000):VC Tryz.prog 148 [x.v,y.v] w F (Vn a b):=by
 have z1:=XJ a.1 b.1
 have z2:=XJ a.1 b.2
 have z3:=XJ a.2 b.1
 have z4:=XJ a.2 b.2
 refine QT.intro (G:=fun F=>ZP F x a∧ZP F y b) Tryz.func148 rfl (by rfl) rfl rfl hF (fun F' hF'=>⟨h.le hF',h'.le hF'⟩)<|J_sr<|Q5 rfl (vs:=[_,_,_,_,_,_,_,_]) rfl (fun b2=>Q5 rfl (vs:=[_,_,_,_,_,_,_,_]) rfl (fun b3=>Qf Y0 (fun b4=>JS_nt<|QG<|JR (.cons _ (.cons_cons _ (.cons_cons _ .slnil))) mixed (by kernel_rfl)<|QM (QI rfl Zk Qe)<|QM (QL (vs:=[_,_,_,_]) rfl Qe (.there .here) (.here (.here (.here (.here .nil)))) rfl)<|QM (QI rfl Zk Qe)<|QM (QL (vs:=[_,_,_,_]) rfl Qe .here (.here (.here (.here (.here .nil)))) rfl)<|Qg rfl (fun w F hF h9=>KK (x:=x.lo) (y:=y.lo) hF h9.1.1 h9.2.1 (by omega) (by omega)) (fun x9=>QM (QI rfl Zk Qe)<|QM (QL (vs:=[_,_,_,_]) rfl Qe (.there .here) (.here (.here (.here (.here .nil)))) rfl)<|QM (QI rfl Z7 Qe)<|QM (QL (vs:=[_,_,_,_]) rfl Qe .here (.skip (.skip (.skip (.skip (.here (.here (.here (.here .nil)))))))) rfl)<|Qg rfl (fun w F hF h9=>KK (x:=x.lo) (y:=y.hi) hF h9.1.1.1 h9.1.2.2 (by omega) (by omega)) (fun x14=>QM (QI rfl Z7 Qe)<|QM (QL (vs:=[_,_,_,_]) rfl Qe (.there .here) (.skip (.skip (.skip (.skip (.here (.here (.here (.here .nil)))))))) rfl)<|QM (QI rfl Zk Qe)<|QM (QL (vs:=[_,_,_,_]) rfl Qe .here (.here (.here (.here (.here .nil)))) rfl)<|Qg rfl (fun w F hF h9=>KK (x:=x.hi) (y:=y.lo) hF h9.1.1.1.2 h9.1.1.2.1 (by omega) (by omega)) (fun x19=>?_))))))
 refine QM (QI rfl Z7 Qe)<|QM (QL (vs:=[_,_,_,_]) rfl Qe (.there .here) (.skip (.skip (.skip (.skip (.here (.here (.here (.here .nil)))))))) rfl)<|QM (QI rfl Z7 Qe)<|QM (QL (vs:=[_,_,_,_]) rfl Qe .here (.skip (.skip (.skip (.skip (.here (.here (.here (.here .nil)))))))) rfl)<|Qg rfl (fun w F hF h9=>KK (x:=x.hi) (y:=y.hi) hF h9.1.1.1.1.2 h9.1.1.1.2.2 (by omega) (by omega)) (fun x24=>?_)
 refine Jt rfl (Q7 Wg) Qe Xp rfl rfl (fun b25=>?_) (fun w h=>h.imp (.cons _ subl_r) (fun F h=>h.1.1.1.1))
 refine Qg rfl (fun w F hF ⟨⟨⟨⟨⟨⟨hA,hB⟩,⟨h9,h9_⟩⟩,⟨h14,h14_⟩⟩,⟨SV,h19_⟩⟩,⟨h24,h24_⟩⟩,hs25⟩=>KO (ps:=[(x14,a.1*b.2),(x19,a.2*b.1),(x24,a.2*b.2)]) hF ⟨h9,h9_⟩ (Q4.of (cs:=List.flatMap (fun p=>UR p.1) [(x14,a.1*b.2),(x19,a.2*b.1),(x24,a.2*b.2)]) hs25 rfl) (fun p hp=>by
  simp only [List.mem_cons,List.not_mem_nil,or_false] at hp
  rcases hp with rfl | rfl | rfl
  ·exact⟨h14,h14_⟩
  ·exact⟨SV,h19_⟩
  ·exact⟨h24,h24_⟩) rfl (by decide) ⟨by omega,fun p hp=>by
  simp only [List.mem_cons,List.not_mem_nil,or_false] at hp
  rcases hp with rfl | rfl | rfl<;>dsimp only<;>omega⟩) (fun x26=>?_)
 refine Jh (vs:=[_,_,_,_,_,_,_,_]) rfl rfl rfl XG rfl .here (.cons_cons _ (.cons_cons _ .slnil)) (fun _ h=>h.1.1.1.1.1.1) (.here (.here (.here (.here (.here (.here (.here (.here .nil)))))))) ⟨rfl,rfl,rfl,rfl,rfl,rfl,rfl,rfl,trivial⟩<|Q9<|QC<|QS ?_
 exact QR (x26) rfl (.Jc (c:=[_,_,_,_,_,_,_,_]) rfl XG .here .nil) rfl (fun F h=>h.2)
end
section
open Go.RowKit Ig
def BS (op:Rat×Rat→Rat×Rat→Rat×Rat) (a b:List UInt8×List UInt8):(List UInt8×List UInt8)×Int :=
 if Qm [XD a.1 a.2,XD b.1 b.2]=0 then V6 (op (Jk a.1,Jk a.2) (Jk b.1,Jk b.2)) else(([],[]),Qm [XD a.1 a.2,XD b.1 b.2])
def short (a:List UInt8×List UInt8):Prop:=a.1.length≤1000000∧a.2.length≤1000000
theorem zN {w:World} {F:Gs} {a b:List UInt8×List UInt8} {f:Nat} {op:Rat×Rat→Rat×Rat→Rat×Rat} (hF:Fits F w) (hG:JC F) (ha:short a) (hb:short b)
  (hop:∀ w F x y r s,Fits F w→ZP F x r→ZP F y s→(JO r.1≤2400∧JO r.2≤2400)→(JO s.1≤2400∧JO s.2≤2400)→VC Tryz.prog f [x.v,y.v] w F (op r s)∧(JO (op r s).1≤100000000∧JO (op r s).2≤100000000)) :
  Qc Tryz.prog 145 [.agg #[tx a.1,tx a.2],.agg #[tx b.1,tx b.2],.func (.func f) #[] #[]] w F (.tuple #[.agg #[tx (BS op a b).1.1,tx (BS op a b).1.2],.int .i64 (BS op a b).2]):=by
 refine QT.intro (G:=fun F=>JC F) Tryz.func145 rfl (by rfl) rfl rfl hF (fun F' hF'=>hG.le hF')<|J_sr<|Q5 rfl (vs:=[_,_]) rfl (fun b3=>Q5 rfl (vs:=[_,_]) rfl (fun b4=>Qf Yk (fun b6=>JS_as rfl<|JS_nt<|QG<|QG<|JR subl_r mixed (by kernel_rfl)<|QM (QL (vs:=[_,_]) rfl Js (.there (.there .here)) (.here (.here .nil)) rfl)<|Qg rfl (fun w F hF hGl=>KN (lo:=a.1) (hi:=a.2) hF hGl ha) (fun _=>QM (QL (vs:=[_,_]) rfl Js (.there .here) (.here (.here .nil)) rfl)<|Qg rfl (fun w F hF h9=>KN (lo:=b.1) (hi:=b.2) hF h9.1 hb) (fun _=>?_)))))
 refine Jt rfl (Q7 Zj) Y1 H7 rfl rfl (fun b13=>?_) (fun w h=>h.Bb fun F h=>h.1.1)
 refine Qg rfl (fun w F hF h9=>Z5 hF (Q4.of (cs:=List.map Qx [XD a.1 a.2,XD b.1 b.2]) h9.2 rfl) (by decide)) (fun _=>QM (QF rfl)<|Q9<|QC<|J_sr<|JS_mv rfl<|QA (QU rfl rfl rfl)<|QE<|QC ?_)
 refine QP rfl (fun hc=>?_) (fun hc=>?_)
 ·
  refine J_sr<|QA (Q6 rfl KI Yk .nil)<|JS_mv rfl<|QQ (vs:=[_,_]) rfl rfl rfl Js rfl .here (.here (.here .nil)) ⟨rfl,rfl,trivial⟩<|JS_as rfl<|JS_nt<|QS ?_
  exact JX () rfl (.Jc (c:=[_,_]) rfl Js .here (.tmp rfl .nil)) (by unfold BS;rw [if_neg (by simpa using hc)];rfl) (fun _ _=>trivial)
 ·
  have h0:Qm [XD a.1 a.2,XD b.1 b.2]=0:=by simpa using hc
  have h1:=YS h0
  have hoka:=Yv h1.1
  have hokb:=Yv h1.2
  refine QO<|QC<|QG<|JR (.cons _ (.cons_cons _ (.cons_cons _ .slnil))) mixed (by kernel_rfl)<|QM (QD rfl)<|QM (QL (vs:=[_,_]) rfl Js (.there .here) (.here (.here .nil)) rfl)<|Qg rfl (fun w F hF h9=>M6 hF h9.1.1.1.1 hoka.1 hoka.2.1 ha) (fun x21=>QM (QL (vs:=[_,_]) rfl Js .here (.here (.here .nil)) rfl)<|Qg rfl (fun w F hF h9=>M6 hF h9.1.1.1.1.1 hokb.1 hokb.2.1 hb) (fun x23=>UI (c1:=[]) (c2:=[]) rfl rfl (fun w F hF h=>(hop w F x21 x23 _ _ hF h.1.2 h.2 ⟨XR hoka.1,XR hoka.2.1⟩ ⟨XR hokb.1,XR hokb.2.1⟩).1) (fun x24=>Qg rfl (fun w F hF h=>Es (x:=x24) (r:=op (Jk a.1,Jk a.2) (Jk b.1,Jk b.2)) hF h.1.1.1.1.1.1.1 h.2 (hop w F x21 x23 _ _ hF h.1.1.2 h.1.2 ⟨XR hoka.1,XR hoka.2.1⟩ ⟨XR hokb.1,XR hokb.2.1⟩).2) (fun _=>QM (QK rfl rfl)<|QM (QK rfl rfl)<|Jh (vs:=[_,_]) rfl rfl rfl Js rfl .here (.cons_cons _ (.cons_cons _ .slnil)) (fun _ h=>h.1.1.1.1) (.here (.here .nil)) ⟨rfl,rfl,trivial⟩<|QM (QF rfl)<|Q9<|QC<|QS ?_))))
  exact JX () rfl (.Jc (c:=[_,_]) rfl Js .here (.tmp rfl .nil)) (by unfold BS;rw [if_pos h0];rfl) (fun _ _=>trivial)
theorem AB {w:World} {F:Gs} {a b:List UInt8×List UInt8} (hF:Fits F w) (hG:JC F) (ha:short a) (hb:short b) :
  Qc Tryz.prog 47 [.agg #[tx a.1,tx a.2],.agg #[tx b.1,tx b.2]] w F (.tuple #[.agg #[tx (BS Vn a b).1.1,tx (BS Vn a b).1.2],.int .i64 (BS Vn a b).2]):=by
 refine QT.intro (G:=fun F=>JC F) Tryz.func47 rfl (by rfl) rfl rfl hF (fun F' hF'=>hG.le hF')<|J_sr<|Q5 rfl (vs:=[_,_]) rfl (fun b2=>Q5 rfl (vs:=[_,_]) rfl (fun b3=>Qf Yk (fun b4=>JS_as rfl<|JS_nt<|J_sr<|QA (QL (vs:=[_,_]) rfl Js (.there (.there .here)) (.here (.here .nil)) rfl)<|QA (QL (vs:=[_,_]) rfl Js (.there .here) (.here (.here .nil)) rfl)<|QH rfl (fun w F hF hGl=>zN (a:=a) (b:=b) (op:=Vn) hF hGl ha hb (fun w F x y r s hF hx hy hr hs=>⟨Sn hF hx hy ⟨by omega,by omega⟩ ⟨by omega,by omega⟩,(by have z1:=XJ r.1 s.1;have z2:=XJ r.1 s.2;have z3:=XJ r.2 s.1;have z4:=XJ r.2 s.2;have:=Gj (k:=4800) [r.1*s.2,r.2*s.1,r.2*s.2] (r.1*s.1,r.1*s.1) ⟨by dsimp only;omega,by dsimp only;omega⟩ (fun x hx=>(by simp only [List.mem_cons,List.not_mem_nil,or_false] at hx;rcases hx with rfl | rfl | rfl<;>omega));exact⟨Nat.le_trans this.1 (by decide),Nat.le_trans this.2 (by decide)⟩)⟩)) (fun c8=>QA (QK rfl rfl)<|QA (QK rfl rfl)<|QQ (vs:=[_,_]) rfl rfl rfl Js rfl .here (.here (.here .nil)) ⟨rfl,rfl,trivial⟩<|JS_as rfl<|JS_nt<|QS ?_))))
 exact JX () rfl (.Jc (c:=[_,_]) rfl Js .here (.tmp rfl .nil)) rfl (fun _ _=>trivial)
end
section
open Go.RowKit Ig
def Gu (text:List UInt8):List UInt8×List UInt8×Bool:=if(ZS 46 text).2.2=true then((ZS 46 text).1,(ZS 46 text).2.1,false) else ZS 47 text
def U6 (n d:List UInt8) (point slash:Bool):Bool:=!Wc n||((point||slash)&&!Wc d)
def BR (n d:List UInt8) (point slash:Bool):Int:=if slash=true then JB n else if point=true then JB (n++d) else JB n
def N7 (d:List UInt8) (point slash:Bool):Int:=if slash=true then JB d else if point=true then 10^d.length else 1
def Rl (neg:Bool) (n d:List UInt8) (point slash:Bool):List UInt8×Int :=
 if U6 n d point slash=true then([],14) else if N7 d point slash=0 then([],6) else NP (Rat.divInt (if neg=true then -BR n d point slash else BR n d point slash) (N7 d point slash))
def Rk (s:List UInt8):List UInt8×Int :=
 if 4096<s.length then([],16) else Rl (Lib.hasPrefix s [45]) (Gu (Lib.trimPrefix s [45])).1 (Gu (Lib.trimPrefix s [45])).2.1 (ZS 46 (Lib.trimPrefix s [45])).2.2 (Gu (Lib.trimPrefix s [45])).2.2
theorem P6 {s:List UInt8} (h:Wc s=true):XH s=true:=by
 simp only [Wc,Bool.and_eq_true] at h;exact h.1
theorem OK (t:List UInt8):(Gu t).1.length≤t.length∧(Gu t).2.1.length≤t.length:=by
 unfold Gu
 split
 ·exact Br 46 t
 ·exact Br 47 t
theorem OL {n d:List UInt8} {pt sl:Bool} (hn:XH n=true) (hd:(pt||sl)=true→XH d=true) (hl:n.length≤1000000∧d.length≤1000000):sz (BR n d pt sl)≤8000000∧sz (N7 d pt sl)≤8000000:=by
 have h1:=VG hn
 unfold BR N7
 refine⟨?_,?_⟩
 ·split
  ·omega
  ·split
   ·rename_i h
    have h2:=VG (l:=n++d) (by rw [X8,hn,hd (by rw [h];rfl)];rfl)
    rw [List.length_append] at h2;omega
   ·omega
 ·split
  ·rename_i h
   have h2:=VG (hd (by rw [h];simp))
   omega
  ·split
   ·have:=Mn d.length;omega
   ·have:sz 1=1:=by decide
    omega
theorem OM {w:World} {F:Gs} {s:List UInt8} (hF:Fits F w) (hG:JC F) (hl:s.length≤1000000):Qc Tryz.prog 71 [tx s] w F (.tuple #[tx (Rk s).1,.int .i64 (Rk s).2]):=by
 have htl:=Dv s [45]
 have hpl:=OK (Lib.trimPrefix s [45])
 have hcl:=Br 46 (Lib.trimPrefix s [45])
 unfold Rk
 refine QT.intro (G:=fun F=>JC F) Tryz.func71 rfl (by rfl) rfl rfl hF (fun F' hF'=>hG.le hF')<|J_sr<|JS_as rfl<|JS_as rfl<|JS_nt<|QG<|J_sr<|JS_mv rfl<|QA (XA rfl Xn)<|QA (QU rfl rfl rfl)<|QE<|QC ?_
 refine QP rfl (fun hc14=>?_) (fun hc14=>?_)
 ·
  refine J_sr<|JS_as rfl<|JS_as rfl<|JS_nt<|QS ?_
  exact JX () rfl (.tmp rfl (.tmp rfl .nil)) (by rw [if_pos (by simp at hc14;omega)]) (fun _ _=>trivial)
 ·
  have hlen:¬ 4096<s.length:=by simp at hc14;omega
  rw [if_neg hlen]
  refine QO<|QC<|J_sr<|JS_mv rfl<|QH rfl (fun w F hF hGl=>EG hF ) (fun _=>JS_mv rfl<|QA (QK rfl rfl)<|QA (QK rfl rfl)<|JS_as rfl<|JS_as rfl<|JS_nt<|J_sr<|JS_mv rfl<|QH rfl (fun w F hF h9=>FK hF h9.1 (by omega)) (fun _=>?_))
  rw [SF]
  refine JS_mv rfl<|QA (QK rfl rfl)<|QA (QK rfl rfl)<|QA (QK rfl rfl)<|JS_as rfl<|JS_as rfl<|JS_as rfl<|JS_nt<|J_sr<|JS_as rfl<|QE<|QC ?_
  refine Kj (ι:=Unit) (fun _=>[(5,.bool (Lib.hasPrefix s [45])),(6,tx (Gu (Lib.trimPrefix s [45])).1),(7,tx (Gu (Lib.trimPrefix s [45])).2.1),(8,.bool (ZS 46 (Lib.trimPrefix s [45])).2.2),(9,.bool (Gu (Lib.trimPrefix s [45])).2.2)]) (fun _=>[]) (fun _ F=>JC F) ?_ ?_
  ·
   refine J_sr<|JS_mv rfl<|QA (Z0 rfl)<|QE<|QC ?_
   refine QP rfl (fun hc27=>?_) (fun hc27=>?_)
   ·
    refine QB<|JS_mv rfl<|QH rfl (fun w F hF h9=>FK hF h9.1.1 (by omega)) (fun _=>?_)
    rw [SF]
    refine JS_mv rfl<|QA (QK rfl rfl)<|QA (QK rfl rfl)<|QA (QK rfl rfl)<|JS_as rfl<|JS_as rfl<|JS_as rfl<|QE ?_
    exact XE () ⟨rfl,(by show some (tx _)=some (tx _);rw [Gu,if_neg (by simpa using hc27)]),(by show some (tx _)=some (tx _);rw [Gu,if_neg (by simpa using hc27)]),rfl,(by show some (Value.bool _)=some (Value.bool _);rw [Gu,if_neg (by simpa using hc27)]),trivial⟩ subl_r (fun F h=>h.1.1.1)
   ·
    refine QO ?_
    exact XE () ⟨rfl,(by show some (tx _)=some (tx _);rw [Gu,if_pos (by simpa using hc27)]),(by show some (tx _)=some (tx _);rw [Gu,if_pos (by simpa using hc27)]),rfl,(by show some (Value.bool _)=some (Value.bool _);rw [Gu,if_pos (by simpa using hc27)]),trivial⟩ subl_r (fun F h=>h.1.1)
  ·intro xg6
   generalize Gu (Lib.trimPrefix s [45])=pc at hpl ⊢
   obtain ⟨n,d,sl⟩:=pc
   generalize (ZS 46 (Lib.trimPrefix s [45])).2.2=pt
   generalize Lib.hasPrefix s [45]=neg
   dsimp only at hpl ⊢
   refine QG ?_
   refine VR 47 (.bool (U6 n d pt sl)) ?_ ?_
   ·
    refine QB<|JS_mv rfl<|QH rfl (fun w F hF hGl=>Bn hF (by omega)) (fun _=>QA (Z0 rfl)<|JS_mv rfl ?_)
    refine Qn (t:=37) rfl (fun hb37=>?_) (fun hb37=>?_)
    ·
     refine QN rfl rfl rfl<|QN rfl rfl rfl<|JU rfl rfl<|QN rfl rfl rfl<|QN rfl rfl rfl<|JU rfl rfl<|JU rfl rfl<|JU rfl rfl<|QN rfl rfl rfl<|QA (Qj rfl rfl rfl)<|QE ?_
     exact Jo (exd 15 rfl rfl) (congrArg (fun b=>some (Value.bool b)) (by rw [Bool.eq_iff_iff];simp_all [U6])) subl_r (fun _ h=>h.1)
    ·
     refine QJ rfl rfl<|JS_mv rfl<|QJ rfl rfl<|JS_mv rfl ?_
     refine Qn (t:=39) rfl (fun hb39=>?_) (fun hb39=>?_)
     ·
      refine QN rfl rfl rfl<|QJ rfl rfl<|QA (Qj rfl rfl rfl)<|QJ rfl rfl<|JS_mv rfl<|QJ rfl rfl<|JS_mv rfl<|QJ rfl rfl<|QH rfl (fun w F hF h9=>Bn hF (by omega)) (fun _=>QJ rfl rfl<|QA (Z0 rfl)<|QJ rfl rfl<|QA (Qj rfl rfl rfl)<|QA (Qh rfl rfl rfl)<|QE ?_)
      exact Jo (exd 16 rfl rfl) (congrArg (fun b=>some (Value.bool b)) (by rw [Bool.eq_iff_iff];simp_all [U6])) subl_r (fun _ h=>h.1.1)
     ·
      refine QJ rfl rfl<|JS_mv rfl<|QJ rfl rfl<|QA (Qh rfl rfl rfl)<|QJ rfl rfl<|JS_mv rfl ?_
      refine Qn (t:=42) rfl (fun hb42=>?_) (fun hb42=>?_)
      ·
       refine QJ rfl rfl<|JS_mv rfl<|QJ rfl rfl<|QH rfl (fun w F hF h9=>Bn hF (by omega)) (fun _=>QJ rfl rfl<|QA (Z0 rfl)<|QJ rfl rfl<|QA (Qj rfl rfl rfl)<|QA (Qh rfl rfl rfl)<|QE ?_)
       exact Jo (exd 17 rfl rfl) (congrArg (fun b=>some (Value.bool b)) (by rw [Bool.eq_iff_iff];simp_all [U6])) subl_r (fun _ h=>h.1.1)
      ·
       refine QN rfl rfl rfl<|QN rfl rfl rfl<|QN rfl rfl rfl<|QJ rfl rfl<|QA (Qh rfl rfl rfl)<|QA (Qh rfl rfl rfl)<|QE ?_
       exact Jo (exd 17 rfl rfl) (congrArg (fun b=>some (Value.bool b)) (by rw [Bool.eq_iff_iff];simp_all [U6])) subl_r (fun _ h=>h.1)
   ·
    refine QP rfl (fun hc47=>?_) (fun hc47=>?_)
    ·
     refine J_sr<|JS_as rfl<|JS_as rfl<|JS_nt<|QS ?_
     exact JX () rfl (.tmp rfl (.tmp rfl .nil)) (by unfold Rl;rw [if_pos hc47]) (fun _ _=>trivial)
    ·
     have hbad:=hc47
     simp only [U6,Bool.or_eq_false_iff,Bool.not_eq_false',Bool.and_eq_false_iff] at hc47
     have hna:=P6 hc47.1
     have hda:(pt||sl)=true→XH d=true:=fun h=>by
      rcases hc47.2 with g | g
      ·rw [Bool.or_eq_true] at h;rcases h with h | h<;>simp_all
      ·exact P6 g
     have hsz:=OL hna hda ⟨by omega,by omega⟩
     refine QO<|QC<|J_sr<|JS_mv rfl<|QH rfl (fun w F hF hGl=>W5 hF (by rw [ZX hna];exact hna) (by omega)) (fun g49=>QH rfl (fun w F hF h9=>M9 hF (by omega) (by omega)) (fun g50=>Qf ZW (fun b10=>Qf ZW (fun b11=>QQ (vs:=[_,_]) rfl rfl rfl QY rfl (.there .here) (.here (.here .nil)) ⟨rfl,rfl,trivial⟩<|QQ (vs:=[_,_]) rfl rfl rfl QY rfl .here (.here (.here .nil)) ⟨rfl,rfl,trivial⟩<|QE<|QC ?_))))
     refine Kj (ι:=Bg×Bg) (fun j=>[(5,.bool neg),(10,.pointer (some ⟨b10,0,none⟩)),(11,.pointer (some ⟨b11,0,none⟩))]) (fun j=>[(b11,.cells #[.int .i64 j.2.s,.slice j.2.q j.2.n j.2.cap] 128 (0,0)),(b10,.cells #[.int .i64 j.1.s,.slice j.1.q j.1.n j.1.cap] 128 (0,0))]) (fun j F=>JC F∧Jq F j.1 (BR n d pt sl)∧Jq F j.2 (N7 d pt sl)) ?_ ?_
     ·
      refine QX<|J_sr<|JS_mv rfl<|JS_as rfl<|QE<|QC ?_
      refine QP rfl (fun hc51=>?_) (fun hc51=>?_)
      ·
       refine QB<|JS_mv rfl<|QH rfl (fun w F hF h9=>W5 hF (by rw [ZX (hda (by rw [hc51];simp))];exact hda (by rw [hc51];simp)) (by omega)) (fun g54=>QQ (vs:=[_,_]) rfl rfl rfl QY rfl .here (.here (.here .nil)) ⟨rfl,rfl,trivial⟩<|QE<|Qk ?_)
       exact XE (g49,g54) ⟨rfl,rfl,rfl,trivial⟩ subl_r (fun F ⟨⟨⟨hGl,h49⟩,h50⟩,h54⟩=>⟨hGl,(by rw [XK hna] at h49;unfold BR;rw [if_pos hc51];exact h49),(by rw [XK (hda (by rw [hc51];simp))] at h54;unfold N7;rw [if_pos hc51];exact h54)⟩)
      ·
       refine J_sr<|JS_mv rfl<|JS_as rfl<|QE<|QC ?_
       refine QP rfl (fun hc55=>?_) (fun hc55=>?_)
       ·
        refine QB<|JS_mv rfl<|JS_mv rfl<|QA (Zf rfl rfl (by omega))<|QH rfl (fun w F hF h9=>W5 hF (by rw [ZX (show XH (n++d)=true by rw [X8,hna,hda (by rw [hc55];rfl)];rfl)];exact(show XH (n++d)=true by rw [X8,hna,hda (by rw [hc55];rfl)];rfl)) (by rw [List.length_append];omega)) (fun g60=>QH rfl (fun w F hF h9=>M9 hF (by omega) (by omega)) (fun g61=>JS_mv rfl<|QA (XA rfl Xn)<|QH rfl (fun w F hF h9=>TD (a:=10) hF h9.2 (by omega) (by omega) (by rw [Int.toNat_natCast,show sz 10=4 by decide];omega)) (fun g64=>QQ (vs:=[_,_]) rfl rfl rfl QY rfl (.there .here) (.here (.here .nil)) ⟨rfl,rfl,trivial⟩<|QQ (vs:=[_,_]) rfl rfl rfl QY rfl .here (.here (.here .nil)) ⟨rfl,rfl,trivial⟩<|QE<|Qk ?_)))
        exact XE (g60,g64) ⟨rfl,rfl,rfl,trivial⟩ subl_r (fun F ⟨⟨⟨⟨⟨hGl,h49⟩,h50⟩,h60⟩,h61⟩,h64⟩=>⟨hGl,(by rw [XK (show XH (n++d)=true by rw [X8,hna,hda (by rw [hc55];rfl)];rfl)] at h60;unfold BR;rw [if_neg (by rw [hc51];decide),if_pos hc55];exact h60),(by rw [Int.toNat_natCast] at h64;unfold N7;rw [if_neg (by rw [hc51];decide),if_pos hc55];exact h64)⟩)
       ·
        refine QO<|Qk ?_
        exact XE (g49,g50) ⟨rfl,rfl,rfl,trivial⟩ subl_r (fun F ⟨⟨hGl,h49⟩,h50⟩=>⟨hGl,(by rw [XK hna] at h49;unfold BR;rw [if_neg (by rw [hc51];decide),if_neg (by rw [hc55];decide)];exact h49),(by unfold N7;rw [if_neg (by rw [hc51];decide),if_neg (by rw [hc55];decide)];exact h50)⟩)
     ·intro xb0
      refine QG<|J_sr<|QA (QL (vs:=[_,_]) rfl QY .here (.here (.here .nil)) rfl)<|QH rfl (fun w F hF h9=>DI hF h9.2.2) (fun _=>QA (QU rfl rfl rfl)<|QE<|QC ?_)
      refine QP rfl (fun hc67=>?_) (fun hc67=>?_)
      ·
       refine J_sr<|JS_as rfl<|JS_as rfl<|JS_nt<|QS ?_
       exact JX () rfl (.tmp rfl (.tmp rfl .nil)) (by unfold Rl;rw [if_neg (by rw [hbad];decide),if_pos (Lm _ (by simpa using hc67))]) (fun _ _=>trivial)
      ·
       refine QO<|QC ?_
       refine Kj (ι:=Bg×Bg) (fun j=>[(5,.bool neg),(10,.pointer (some ⟨b10,0,none⟩)),(11,.pointer (some ⟨b11,0,none⟩))]) (fun j=>[(b11,.cells #[.int .i64 j.2.s,.slice j.2.q j.2.n j.2.cap] 128 (0,0)),(b10,.cells #[.int .i64 j.1.s,.slice j.1.q j.1.n j.1.cap] 128 (0,0))]) (fun j F=>JC F∧Jq F j.1 (if neg=true then -(BR n d pt sl) else(BR n d pt sl))∧Jq F j.2 (N7 d pt sl)) ?_ ?_
       ·
        refine J_sr<|JS_mv rfl<|QE<|QC ?_
        refine QP rfl (fun hc68=>?_) (fun hc68=>?_)
        ·
         refine QB<|QA (QL (vs:=[_,_]) rfl QY (.there .here) (.here (.here .nil)) rfl)<|QH rfl (fun w F hF h9=>D5 hF h9.1.2.1) (fun g70=>QQ (vs:=[_,_]) rfl rfl rfl QY rfl (.there .here) (.here (.here .nil)) ⟨rfl,rfl,trivial⟩<|QE ?_)
         exact XE (g70,xb0.2) ⟨rfl,rfl,rfl,trivial⟩ subl_r (fun F h9=>⟨h9.1.1.1,(by rw [if_pos hc68];exact h9.2),h9.1.1.2.2⟩)
        ·
         refine QO ?_
         exact XE (xb0.1,xb0.2) ⟨rfl,rfl,rfl,trivial⟩ subl_r (fun F h9=>⟨h9.1.1,(by rw [if_neg (by rw [hc68];decide)];exact h9.1.2.1),h9.1.2.2⟩)
       ·intro xg17
        refine J_sr<|QA (QL (vs:=[_,_]) rfl QY (.there .here) (.here (.here .nil)) rfl)<|QA (QL (vs:=[_,_]) rfl QY .here (.here (.here .nil)) rfl)<|QH rfl (fun w F hF h9=>NG hF h9.2.1 h9.2.2 (fun e=>by rw [e] at hc67;exact absurd hc67 (by decide)) (by split<;>(try rw [YQ])<;>omega) (by omega)) (fun x73=>QH rfl (fun w F hF h9=>IP (r:=Rat.divInt (if neg=true then -(BR n d pt sl) else(BR n d pt sl)) (N7 d pt sl)) hF h9.1.1 ⟨h9.2.1,h9.2.2⟩ (Nat.le_trans (Ym (fun e=>by rw [e] at hc67;exact absurd hc67 (by decide))) (by have hq:sz (if neg=true then -(BR n d pt sl) else(BR n d pt sl))≤8000000:=(by split<;>(try rw [YQ])<;>omega);omega))) (fun _=>QA (QK rfl rfl)<|QA (QK rfl rfl)<|JS_as rfl<|JS_as rfl<|JS_nt<|QS ?_))
        exact JX () rfl (.tmp rfl (.tmp rfl .nil)) (by unfold Rl;rw [if_neg (by rw [hbad];decide),if_neg (fun e=>by rw [e] at hc67;exact absurd hc67 (by decide))];rfl) (fun _ _=>trivial)
end
section
open Go.RowKit Ig
section
variable [Dr] [df:Df] {P:Program} {Q:Exit→Act→World→Prop} {N:Nat} {m:Sl} {ops:Array Oper} {l:List Oper} {w0:World} {F0:Gs} {bs:List (Nat×Obj)} {G:Gs→Prop} {d:Nat} {ty:TypeId} {pos:String} {aft:Array Edge}
theorem UF {T:TypeId} {x:Operand} {s:List UInt8} (hx:ev m x=some (tx s)) (hT:GU P T=true) (k:∀ b,JS P ops Q l N ((d,.pointer (some ⟨b,0,none⟩))::m) ⟨w0,F0,(b,.stringIter ⟨s.toArray⟩ 0)::bs,G⟩) (hd:J4 N (some d)=true:=by rfl) :
  JS P ops Q (⟨some d,.range T x,ty,pos,aft,none⟩::l) N m ⟨w0,F0,bs,G⟩:=fun a w ha hw=>by
 unfold GU at hT
 split at hT
 ·rename_i hu
  have hrun:(execOp a.eval ⟨some d,.range T x,ty,pos,aft,none⟩).run P w = .ok (.value (.pointer (some ⟨w.heap.size,0,none⟩))) (w.alloc (.stringIter ⟨s.toArray⟩ 0)):=by
   simp [execOp,ha.ev hx,Instr.range,run_underlying hu,run_newObj,tx]
  exact wpList_plain rfl fun K hK=>upon_value hrun (hK _ _ (k _ _ _ (ha.put hd _) (hw.alloc _ (fun c fr e=>by cases e))))
 ·cases hT
theorem Ad {x:Operand} {s:List UInt8} {b p:Nat} {f:Obj→List (Nat×Obj)} (hx:ev m x=some (.pointer (some ⟨b,0,none⟩))) (ho:Own bs b (.stringIter ⟨s.toArray⟩ p) f) (hp:p<s.length) {c width:Nat} (hdec:Utf8.decode ⟨s.toArray⟩ p=(c,width))
  (k:JS P ops Q l N ((d,.tuple #[.bool true,.int .i64 p,.int .i32 c])::m) ⟨w0,F0,f (.stringIter ⟨s.toArray⟩ (p+width)),G⟩) (hd:J4 N (some d)=true:=by rfl) :
  JS P ops Q (⟨some d,.next x true,ty,pos,aft,none⟩::l) N m ⟨w0,F0,bs,G⟩:=fun a w ha hw=>by
 have hb:=hw.own ho
 obtain ⟨pre,post,e1,e2⟩:=ho.split
 subst e1
 rw [e2] at k
 have hsz:p<(⟨s.toArray⟩:ByteArray).size:=by rw [YL];exact hp
 have hrun:(execOp a.eval ⟨some d,.next x true,ty,pos,aft,none⟩).run P w = .ok (.value (.tuple #[.bool true,.int .i64 p,.int .i32 c])) { w with heap:=w.heap.setIfInBounds b (.stringIter ⟨s.toArray⟩ (p+width)) }:=by
  simp [execOp,ha.ev hx,Instr.next,getObj,setObj,Sem.run,hb,hsz,hdec,goInt]
 exact wpList_plain rfl fun K hK=>upon_value hrun (hK _ _ (k _ _ (ha.put hd _) (hw.write pre ⟨rfl,rfl,rfl,rfl,rfl⟩ (fun c fr e=>by cases e))))
theorem Ae {x:Operand} {s:List UInt8} {b p:Nat} {f:Obj→List (Nat×Obj)} (hx:ev m x=some (.pointer (some ⟨b,0,none⟩))) (ho:Own bs b (.stringIter ⟨s.toArray⟩ p) f) (hp:s.length≤p)
  (k:JS P ops Q l N ((d,.tuple #[.bool false])::m) ⟨w0,F0,bs,G⟩) (hd:J4 N (some d)=true:=by rfl) :
  JS P ops Q (⟨some d,.next x true,ty,pos,aft,none⟩::l) N m ⟨w0,F0,bs,G⟩:=fun a w ha hw=>by
 have hb:=hw.own ho
 have hsz:¬ p<(⟨s.toArray⟩:ByteArray).size:=by rw [YL];omega
 have hrun:(execOp a.eval ⟨some d,.next x true,ty,pos,aft,none⟩).run P w = .ok (.value (.tuple #[.bool false])) w:=by
  simp [execOp,ha.ev hx,Instr.next,getObj,Sem.run,hb,hsz]
 exact wpList_plain rfl fun K hK=>upon_value hrun (hK _ _ (k _ _ (ha.put hd _) hw))
end
theorem decode_high {s:List UInt8} {p:Nat} (hp:p<s.length) (h:¬ s[p].toNat<128):128≤(Utf8.decode ⟨s.toArray⟩ p).1:=by
 have h0:((⟨s.toArray⟩:ByteArray).get! (p+0)).toNat=s[p].toNat:=by
  simp [ByteArray.get!,hp]
 unfold Utf8.decode
 simp only [h0]
 rw [if_neg h]
 split
 ·split
  ·rename_i g;exact g
  ·decide
 ·split
  ·split
   ·rename_i g;simp only [Bool.and_eq_true,decide_eq_true_eq] at g;exact Nat.le_trans (by decide) g.1
   ·decide
  ·split
   ·split
    ·rename_i g;simp only [Bool.and_eq_true,decide_eq_true_eq] at g;exact Nat.le_trans (by decide) g.1
    ·decide
   ·decide
theorem Ib {s:List UInt8} {p:Nat} (hp:p<s.length):∃ c width,Utf8.decode ⟨s.toArray⟩ p=(c,width)∧((s[p].toNat<128∧c=s[p].toNat∧width=1)∨(128≤s[p].toNat∧128≤c)):=by
 have h0:((⟨s.toArray⟩:ByteArray).get! (p+0)).toNat=s[p].toNat:=by
  simp [ByteArray.get!,hp]
 by_cases h:s[p].toNat<128
 ·exact⟨_,_,by unfold Utf8.decode;simp only [h0];rw [if_pos h],.inl ⟨h,rfl,rfl⟩⟩
 ·exact⟨(Utf8.decode ⟨s.toArray⟩ p).1,(Utf8.decode ⟨s.toArray⟩ p).2,rfl,.inr ⟨by omega,decode_high hp h⟩⟩
def Tn (c:Nat):Bool:=(decide (97≤c)&&decide (c≤122))||(decide (65≤c)&&decide (c≤90))
def Nf (i c:Nat):Bool:=!Tn c&&(i==0||(!(c==95)&&(decide (c<48)||decide (57<c))))
def W7:Nat→List UInt8→Bool
 |_,[]=>true
 |i,c::r=>!Nf i c.toNat&&W7 (i+1) r
def Po (s:List UInt8):Bool:=W7 0 s&&decide (0<s.length)&&decide (s.length≤24)
theorem M8 {s:List UInt8} {i:Nat} (hi:i<s.length):W7 i (s.drop i)=(!Nf i s[i].toNat&&W7 (i+1) (s.drop (i+1))):=by
 rw [List.drop_eq_getElem_cons hi];rfl
theorem RE {i c:Nat} (h:128≤c):Nf i c=true:=by
 unfold Nf Tn
 rw [decide_eq_false (show ¬ c≤122 by omega),decide_eq_false (show ¬ c≤90 by omega),decide_eq_true (show 57<c by omega)]
 have:(c==95)=false:=by simp;omega
 rw [this];simp
theorem Tl {w:World} {F:Gs} {s:List UInt8} (hF:Fits F w) (hl:s.length≤1000000000):Qc Tryz.prog 66 [tx s] w F (.bool (Po s)):=by
 refine QT.intro (G:=fun _=>True) Tryz.func66 rfl (by rfl) rfl rfl hF (fun F' hF'=>trivial)<|J_sr<|JS_as rfl<|JS_nt<|QG<|J_sr<|JS_mv rfl<|UF rfl Xn (fun b7=>JS_nt<|QX<|Xa (ι:=Hv s.length (fun i=>W7 0 s=W7 i (s.drop i))) (fun i=>[(0,tx s),(7,.pointer (some ⟨b7,0,none⟩))]) (fun i=>[(b7,.stringIter ⟨s.toArray⟩ i.i)]) (fun _ _=>True) (fun i=>s.length - i.i) ⟨0,Nat.zero_le _,rfl⟩ ⟨rfl,rfl,trivial⟩ subl_r (fun _ h=>h) (fun i=>?_))
 have hle:=i.le
 rcases Nat.lt_or_ge i.i s.length with hi | hi
 ·
  refine QG<|QB ?_
  obtain ⟨c,wd,hdec,hcase⟩:=Ib hi
  refine Ad rfl .here hi hdec<|QA (QK rfl rfl)<|JS_nt<|QG<|Wu rfl<|QO<|QC<|QX<|J_sr<|QA (QK rfl rfl)<|QA (QK rfl rfl)<|JS_as rfl<|JS_as rfl<|QE<|QC ?_
  refine VR 5 (.bool (Tn c)) ?_ ?_
  ·
   refine QB<|JS_mv rfl<|QA (QU rfl rfl rfl)<|JS_mv rfl ?_
   refine Qn (t:=14) rfl (fun hb14=>?_) (fun hb14=>?_)
   ·
    refine QJ rfl rfl<|JS_mv rfl<|QJ rfl rfl<|QA (QU rfl rfl rfl)<|QA (Qj rfl rfl rfl)<|JS_mv rfl ?_
    refine Qn (t:=18) rfl (fun hb18=>?_) (fun hb18=>?_)
    ·
     refine QN rfl rfl rfl<|QN rfl rfl rfl<|QN rfl rfl rfl<|JU rfl rfl<|JU rfl rfl<|QN rfl rfl rfl<|QA (Qj rfl rfl rfl)<|JS_as rfl<|QE ?_
     exact Jo (exd 17 rfl rfl) (congrArg (fun b=>some (Value.bool b)) (by rw [Bool.eq_iff_iff];simp_all [Tn];try omega)) subl_r (fun _ h=>h)
    ·
     refine QJ rfl rfl<|JS_mv rfl<|QJ rfl rfl<|QA (QU rfl rfl rfl)<|QJ rfl rfl<|JS_mv rfl ?_
     refine Qn (t:=21) rfl (fun hb21=>?_) (fun hb21=>?_)
     ·
      refine QJ rfl rfl<|JS_mv rfl<|QJ rfl rfl<|QA (QU rfl rfl rfl)<|QJ rfl rfl<|QA (Qj rfl rfl rfl)<|QA (Qh rfl rfl rfl)<|JS_as rfl<|QE ?_
      exact Jo (exd 18 rfl rfl) (congrArg (fun b=>some (Value.bool b)) (by rw [Bool.eq_iff_iff];simp_all [Tn];try omega)) subl_r (fun _ h=>h)
     ·
      refine QN rfl rfl rfl<|QN rfl rfl rfl<|QJ rfl rfl<|QA (Qh rfl rfl rfl)<|QA (Qh rfl rfl rfl)<|JS_as rfl<|QE ?_
      exact Jo (exd 18 rfl rfl) (congrArg (fun b=>some (Value.bool b)) (by rw [Bool.eq_iff_iff];simp_all [Tn];try omega)) subl_r (fun _ h=>h)
   ·
    refine QN rfl rfl rfl<|QN rfl rfl rfl<|QA (Qh rfl rfl rfl)<|JS_mv rfl<|QJ rfl rfl<|JS_mv rfl<|QJ rfl rfl<|QA (QU rfl rfl rfl)<|QJ rfl rfl<|JS_mv rfl ?_
    refine Qn (t:=21) rfl (fun hb21=>?_) (fun hb21=>?_)
    ·
     refine QJ rfl rfl<|JS_mv rfl<|QJ rfl rfl<|QA (QU rfl rfl rfl)<|QJ rfl rfl<|QA (Qj rfl rfl rfl)<|QA (Qh rfl rfl rfl)<|JS_as rfl<|QE ?_
     exact Jo (exd 17 rfl rfl) (congrArg (fun b=>some (Value.bool b)) (by rw [Bool.eq_iff_iff];simp_all [Tn];try omega)) subl_r (fun _ h=>h)
    ·
     refine QN rfl rfl rfl<|QN rfl rfl rfl<|QJ rfl rfl<|QA (Qh rfl rfl rfl)<|QA (Qh rfl rfl rfl)<|JS_as rfl<|QE ?_
     exact Jo (exd 17 rfl rfl) (congrArg (fun b=>some (Value.bool b)) (by rw [Bool.eq_iff_iff];simp_all [Tn];try omega)) subl_r (fun _ h=>h)
  ·
   refine VR 43 (.bool (Nf i.i c)) ?_ ?_
   ·
    refine QB<|JS_mv rfl<|QA (Z0 rfl)<|JS_mv rfl ?_
    refine Qn (t:=28) rfl (fun hb28=>?_) (fun hb28=>?_)
    ·
     refine QJ rfl rfl<|JS_mv rfl<|QJ rfl rfl<|QA (QU rfl rfl rfl)<|QJ rfl rfl<|JS_mv rfl ?_
     refine Qn (t:=31) rfl (fun hb31=>?_) (fun hb31=>?_)
     ·
      refine QN rfl rfl rfl<|QN rfl rfl rfl<|QN rfl rfl rfl<|JU rfl rfl<|JU rfl rfl<|JU rfl rfl<|JU rfl rfl<|JU rfl rfl<|JU rfl rfl<|QN rfl rfl rfl<|QJ rfl rfl<|QA (Qj rfl rfl rfl)<|QA (Qj rfl rfl rfl)<|QE ?_
      exact Jo (exd 20 rfl rfl) (congrArg (fun b=>some (Value.bool b)) (by rw [Bool.eq_iff_iff];simp_all [Nf];try omega)) subl_r (fun _ h=>h)
     ·
      refine QJ rfl rfl<|JS_mv rfl<|QJ rfl rfl<|QA (QU rfl rfl rfl)<|QJ rfl rfl<|JS_mv rfl ?_
      refine Qn (t:=34) rfl (fun hb34=>?_) (fun hb34=>?_)
      ·
       refine QJ rfl rfl<|JS_mv rfl<|QJ rfl rfl<|QA (QU rfl rfl rfl)<|QJ rfl rfl<|JS_mv rfl ?_
       refine Qn (t:=37) rfl (fun hb37=>?_) (fun hb37=>?_)
       ·
        refine QN rfl rfl rfl<|QN rfl rfl rfl<|QJ rfl rfl<|QA (Qj rfl rfl rfl)<|QJ rfl rfl<|QA (Qj rfl rfl rfl)<|QJ rfl rfl<|QA (Qh rfl rfl rfl)<|QA (Qj rfl rfl rfl)<|QE ?_
        exact Jo (exd 22 rfl rfl) (congrArg (fun b=>some (Value.bool b)) (by rw [Bool.eq_iff_iff];simp_all [Nf];try omega)) subl_r (fun _ h=>h)
       ·
        refine QJ rfl rfl<|JS_mv rfl<|QJ rfl rfl<|QA (QU rfl rfl rfl)<|QJ rfl rfl<|QA (Qh rfl rfl rfl)<|QJ rfl rfl<|QA (Qj rfl rfl rfl)<|QJ rfl rfl<|QA (Qh rfl rfl rfl)<|QA (Qj rfl rfl rfl)<|QE ?_
        exact Jo (exd 22 rfl rfl) (congrArg (fun b=>some (Value.bool b)) (by rw [Bool.eq_iff_iff];simp_all [Nf];try omega)) subl_r (fun _ h=>h)
      ·
       refine QN rfl rfl rfl<|QN rfl rfl rfl<|QN rfl rfl rfl<|JU rfl rfl<|JU rfl rfl<|QN rfl rfl rfl<|QJ rfl rfl<|QA (Qh rfl rfl rfl)<|QJ rfl rfl<|QA (Qh rfl rfl rfl)<|QA (Qj rfl rfl rfl)<|QE ?_
       exact Jo (exd 21 rfl rfl) (congrArg (fun b=>some (Value.bool b)) (by rw [Bool.eq_iff_iff];simp_all [Nf];try omega)) subl_r (fun _ h=>h)
    ·
     refine QN rfl rfl rfl<|QN rfl rfl rfl<|QN rfl rfl rfl<|JU rfl rfl<|JU rfl rfl<|JU rfl rfl<|JU rfl rfl<|JU rfl rfl<|JU rfl rfl<|JU rfl rfl<|JU rfl rfl<|JU rfl rfl<|JU rfl rfl<|QN rfl rfl rfl<|QA (Qh rfl rfl rfl)<|QE ?_
     exact Jo (exd 19 rfl rfl) (congrArg (fun b=>some (Value.bool b)) (by rw [Bool.eq_iff_iff];simp_all [Nf];try omega)) subl_r (fun _ h=>h)
   ·
    refine QP rfl (fun hc=>?_) (fun hc=>?_)
    ·
     refine J_sr<|JS_as rfl<|JS_nt<|QS ?_
     repeat (first | refine JE ?_ | refine Q3 ?_)
     exact QR () rfl (.tmp rfl .nil) (congrArg Value.bool (by have hb:Nf i.i s[i.i].toNat=true:=(by rcases hcase with ⟨_,h2,_⟩ | ⟨h2,_⟩;rw [← h2];exact hc;exact RE h2);unfold Po;rw [i.h,M8 hi,hb];rfl)) (fun _ _=>trivial)
    ·
     refine QO<|Qk ?_
     rcases hcase with ⟨h1,rfl,rfl⟩ | ⟨_,h2⟩
     ·exact Ql (⟨i.i+1,by omega,i.h.trans (by rw [M8 hi,hc];rfl)⟩:Hv s.length (fun i=>W7 0 s=W7 i (s.drop i))) (by show s.length - (i.i+1)<s.length - i.i;omega) ⟨rfl,rfl,trivial⟩ subl_r (fun _ h=>trivial)
     ·rw [RE h2] at hc;cases hc
 ·
  refine J_sr<|Ae rfl .here hi<|QA (QK rfl rfl)<|JS_nt<|QG<|YF rfl<|Qy ?_
  repeat (first | refine QZ ?_ | refine QV (by rfl) ?_)
  refine Qa<|QC<|J_sr<|JS_mv rfl<|QA (XA rfl Xn)<|QA (QU rfl rfl rfl)<|JS_mv rfl ?_
  refine Qn (t:=47) rfl (fun hb47=>?_) (fun hb47=>?_)
  ·
   refine QJ rfl rfl<|JS_mv rfl<|QJ rfl rfl<|QA (XA rfl Xn)<|QJ rfl rfl<|QA (QU rfl rfl rfl)<|QA (Qj rfl rfl rfl)<|JS_as rfl<|JS_nt<|QS ?_
   exact QR () rfl (.tmp rfl .nil) (congrArg Value.bool (by have e:=i.h;rw [List.drop_of_length_le hi] at e;unfold Po;rw [e];have h0:=hb47;rw [Bool.eq_iff_iff];simp [W7] at *;(try subst h0);(try simp);try omega)) (fun _ _=>trivial)
  ·
   refine QN rfl rfl rfl<|QN rfl rfl rfl<|QN rfl rfl rfl<|QA (Qh rfl rfl rfl)<|JS_as rfl<|JS_nt<|QS ?_
   exact QR () rfl (.tmp rfl .nil) (congrArg Value.bool (by have e:=i.h;rw [List.drop_of_length_le hi] at e;unfold Po;rw [e];have h0:=hb47;rw [Bool.eq_iff_iff];simp [W7] at *;(try subst h0);(try simp);try omega)) (fun _ _=>trivial)
end
section
open Go.RowKit Ig
def ahead (p:UInt8→Bool) (s:List UInt8):Nat:=(s.takeWhile (fun c=>!p c)).length
theorem RG {p:UInt8→Bool} {s:List UInt8} {i:Nat} (hi:i<s.length) (h:(s.take i).all (fun c=>!p c)=true) (hp:p s[i]=true):ahead p s=i:=by
 unfold ahead
 have e:s=s.take i++s[i]::s.drop (i+1):=by rw [← List.drop_eq_getElem_cons hi,List.take_append_drop]
 have hl:(s.take i).length=i:=by simp;omega
 rw [e,List.takeWhile_append_of_pos (by simpa using h),List.takeWhile_cons]
 simp [hp];omega
theorem RH {p:UInt8→Bool} {s:List UInt8} (h:s.all (fun c=>!p c)=true):ahead p s=s.length:=by
 unfold ahead
 induction s with
 |nil=>rfl
 |cons c s ih =>
  simp only [List.all_cons,Bool.and_eq_true] at h
  rw [List.takeWhile_cons,if_pos h.1,List.length_cons,ih h.2,List.length_cons]
theorem Dt {p:UInt8→Bool} {s:List UInt8} {i:Nat} (hi:i<s.length) (h:(s.take i).all p=true) (hp:p s[i]=true):(s.take (i+1)).all p=true:=by
 rw [List.take_succ_eq_append_getElem hi,List.all_append,h];simp [hp]
def XY (c:UInt8):Bool:=c==47
theorem Em {c d:UInt8} {z:Int} (hz:z=(d.toNat:Int)):((c.toNat:Int)==z)=(c==d):=by
 rw [Bool.eq_iff_iff]
 simp only [beq_iff_eq]
 constructor
 ·intro h
  apply UInt8.toNat.inj
  omega
 ·rintro rfl
  exact hz.symm
theorem D0 {w:World} {F:Gs} {s:List UInt8} (hF:Fits F w) (hl:s.length≤9223372036854775807):Qc Tryz.prog 117 [tx s] w F (.int .i64 (ahead XY s)):=by
 refine QT.intro (G:=fun _=>True) Tryz.func117 rfl (by rfl) rfl rfl hF (fun F' hF'=>trivial)<|J_sr<|JS_as rfl<|JS_nt<|QG<|J_sr<|JS_as rfl<|JS_nt<|QX<|Xa (ι:=Hv s.length (fun i=>(s.take i).all (fun c=>!XY c)=true)) (fun i=>[(0,tx s),(3,.int .i64 i.i)]) (fun _=>[]) (fun _ _=>True) (fun i=>s.length - i.i) ⟨0,Nat.zero_le _,rfl⟩ ⟨rfl,rfl,trivial⟩ subl_r (fun _ h=>trivial) (fun i=>?_)
 have hle:=i.le
 refine QG<|J_sr<|JS_mv rfl<|JS_mv rfl<|QA (XA rfl Xn)<|QA (QU rfl rfl rfl)<|QE<|QC ?_
 refine QP rfl (fun hc=>?_) (fun hc=>?_)
 ·
  have hi:i.i<s.length:=by simp at hc;omega
  clear hc
  refine QO<|QC<|QG<|QX<|J_sr<|JS_mv rfl<|JS_mv rfl<|QA (Vw rfl rfl Xn (hi))<|QA (QU rfl rfl rfl)<|QE<|QC ?_
  refine QP rfl (fun hc=>?_) (fun hc=>?_)
  ·
   refine J_sr<|JS_mv rfl<|JS_as rfl<|JS_nt<|QS ?_
   repeat (first | refine JE ?_ | refine Q3 ?_)
   exact QR () rfl (.tmp rfl .nil) (congrArg (fun n:Nat=>Value.int .i64 (n:Int)) (RG hi i.h (by unfold XY;have:=hc;rw [Em (d:=47) (z:=47) rfl] at this;simpa using this))) (fun _ _=>trivial)
  ·
   refine QO<|Qk<|QC<|QB<|JS_mv rfl<|QA (Qp rfl rfl (by omega))<|JS_as rfl<|QE ?_
   exact Ql (⟨i.i+1,by omega,Dt hi i.h (by unfold XY;have:=hc;rw [Em (d:=47) (z:=47) rfl] at this;simpa using this)⟩:Hv s.length (fun i=>(s.take i).all (fun c=>!XY c)=true)) (by show s.length - (i.i+1)<s.length - i.i;omega) ⟨rfl,rfl,trivial⟩ subl_r (fun _ h=>trivial)
 ·
  refine Qy ?_
  repeat (first | refine QZ ?_ | refine QV (by rfl) ?_)
  refine Qa<|QC<|J_sr<|JS_mv rfl<|QA (XA rfl Xn)<|JS_as rfl<|JS_nt<|QS ?_
  exact QR () rfl (.tmp rfl .nil) (congrArg (fun n:Nat=>Value.int .i64 (n:Int)) (RH (by have e:=i.h;rw [List.take_of_length_le (by simp at hc;omega)] at e;exact e))) (fun _ _=>trivial)
end
section
open Go.RowKit Ig
def Nv (s:List UInt8):Int:=if s=[48] then 0 else if Lib.hasPrefix s [45]=true then -1 else 1
def CT (s:List UInt8):List UInt8:=if Nv s<0 then s.drop 1 else s
def numOf (s:List UInt8):List UInt8:=s.take (ahead XY s)
def UU (s:List UInt8):List UInt8:=if ahead XY s=s.length then [49] else s.drop (ahead XY s+1)
theorem W6 {s:List UInt8} (h:0<s.length):Lib.hasPrefix s [45]=(s[0]==45):=by
 cases s with
 |nil=>simp at h
 |cons c r =>
  have e:Lib.hasPrefix (c::r) [45]=(45==c):=by simp [Lib.hasPrefix,List.isPrefixOf]
  rw [e,Bool.eq_iff_iff]
  simp only [List.getElem_cons_zero,beq_iff_eq]
  exact⟨fun h=>h.symm,fun h=>h.symm⟩
end
section
open Go.RowKit Ig
theorem EW {s:List UInt8} {i:Nat} (hi:i<s.length):JB (s.take (i+1))=JB (s.take i)*10+(s[i].toNat - 48):=by
 rw [List.take_succ_eq_append_getElem hi,Z4,K9];simp
theorem yP {s:List UInt8} {i:Nat} (hi:i<s.length) (h:XH s=true):48≤s[i].toNat∧s[i].toNat≤57:=by
 rw [XH,List.all_eq_true] at h
 exact Ye.1 (h _ (List.getElem_mem hi))
theorem Mt {w:World} {F:Gs} {s:List UInt8} (hF:Fits F w) (hs:XH s=true) (hl:s.length≤18):Qc Tryz.prog 232 [tx s] w F (.int .i64 (JB s)):=by
 refine QT.intro (G:=fun _=>True) Tryz.func232 rfl (by rfl) rfl rfl hF (fun F' hF'=>trivial)<|J_sr<|JS_as rfl<|JS_nt<|J_sr<|JS_as rfl<|JS_nt<|QG<|J_sr<|JS_as rfl<|JS_nt<|QX<|Xa (ι:=Hv s.length (fun _=>True)) (fun i=>[(0,tx s),(3,.int .i64 (JB (s.take i.i))),(4,.int .i64 i.i)]) (fun _=>[]) (fun _ _=>True) (fun i=>s.length - i.i) ⟨0,Nat.zero_le _,trivial⟩ ⟨rfl,rfl,rfl,trivial⟩ subl_r (fun _ h=>trivial) (fun i=>?_)
 have hle:=i.le
 have hlt:=Vv (Gk hs i.i)
 have hp18:(10:Nat)^(s.take i.i).length≤10^18:=Nat.pow_le_pow_right (by decide) (by simp;omega)
 refine QG<|J_sr<|JS_mv rfl<|JS_mv rfl<|QA (XA rfl Xn)<|QA (QU rfl rfl rfl)<|QE<|QC ?_
 refine QP rfl (fun hc=>?_) (fun hc=>?_)
 ·
  have hi:i.i<s.length:=by simp at hc;omega
  have hd:=yP hi hs
  have hp17:(10:Nat)^(s.take i.i).length≤10^17:=Nat.pow_le_pow_right (by decide) (by simp;omega)
  refine QO<|QC<|QG<|QX<|QB<|JS_mv rfl<|QA (Wo rfl rfl (by omega))<|JS_mv rfl<|JS_mv rfl<|QA (Vw rfl rfl Xn (hi))<|QA (Fv rfl p5 cx (by omega))<|QA (Qp rfl rfl (by omega))<|QA (J7 rfl rfl (by omega))<|JS_as rfl<|QE<|Qk<|QC<|QB<|JS_mv rfl<|QA (Qp rfl rfl (by omega))<|JS_as rfl<|QE ?_
  exact Ql (⟨i.i+1,by omega,trivial⟩:Hv s.length (fun _=>True)) (by show s.length - (i.i+1)<s.length - i.i;omega) ⟨rfl,(by show some (Value.int .i64 _)=some (Value.int .i64 _);rw [EW hi];congr 2;omega),rfl,trivial⟩ subl_r (fun _ h=>trivial)
 ·
  refine Qy ?_
  repeat (first | refine QZ ?_ | refine QV (by rfl) ?_)
  refine Qa<|QC<|J_sr<|JS_mv rfl<|JS_as rfl<|JS_nt<|QS ?_
  exact QR () rfl (.tmp rfl .nil) (congrArg (Value.int .i64) (by rw [List.take_of_length_le (by simp at hc;omega)])) (fun _ _=>trivial)
structure dF (a b:Nat) where
 x:Nat
 y:Nat
 h:Nat.gcd x y=Nat.gcd a b
 hx:x≤9223372036854775807
 hy:y≤9223372036854775807
theorem vN {w:World} {F:Gs} {a b:Nat} (hF:Fits F w) (ha:a≤9223372036854775807) (hb:b≤9223372036854775807):Qc Tryz.prog 181 [.int .i64 (a:Int),.int .i64 (b:Int)] w F (.int .i64 (Nat.gcd a b:Nat)):=by
 refine QT.intro (G:=fun _=>True) Tryz.func181 rfl (by rfl) rfl rfl hF (fun F' hF'=>trivial)<|J_sr<|JS_as rfl<|JS_nt<|QG<|QX<|Xa (ι:=dF a b) (fun i=>[(0,.int .i64 (i.x:Int)),(1,.int .i64 (i.y:Int))]) (fun _=>[]) (fun _ _=>True) (fun i=>i.y) ⟨a,b,rfl,ha,hb⟩ ⟨rfl,rfl,trivial⟩ subl_r (fun _ h=>trivial) (fun i=>?_)
 have hx:=i.hx
 have hy:=i.hy
 refine QG<|J_sr<|JS_mv rfl<|QA (QU rfl rfl rfl)<|QE<|QC ?_
 refine QP rfl (fun hc=>?_) (fun hc=>?_)
 ·
  have hpos:0<i.y:=by simp at hc;omega
  refine QO<|QC<|QX<|JR subl_r mixed (by kernel_rfl)<|QM (QD rfl)<|QM (QD rfl)<|QM (QD rfl)<|QM (VH rfl rfl (by omega) (by omega))<|QM (QF rfl)<|QM (QF rfl)<|Q9<|Qk ?_
  exact Ql (⟨i.y,i.x%i.y,by rw [← i.h,Nat.gcd_comm i.x,Nat.gcd_rec i.y i.x,Nat.gcd_comm],hy,by have:=Nat.mod_lt i.x hpos;omega⟩:dF a b) (Nat.mod_lt i.x hpos) ⟨rfl,rfl,trivial⟩ subl_r (fun _ h=>trivial)
 ·
  refine Qy ?_
  repeat (first | refine QZ ?_ | refine QV (by rfl) ?_)
  refine Qa<|QC<|J_sr<|JS_mv rfl<|JS_as rfl<|JS_nt<|QS ?_
  exact QR () rfl (.tmp rfl .nil) (congrArg (fun n:Nat=>Value.int .i64 (n:Int)) (by have h0:i.y=0:=(by simp at hc;omega);rw [← i.h,h0,Nat.gcd_zero_right])) (fun _ _=>trivial)
def Nt (n least:Nat):List UInt8:=VW least (hd n)
theorem FE {n:Nat} (h:0<n):hd n=hd (n / 10)++[UInt8.ofNat (48+n%10)]:=by
 unfold hd
 rw [if_neg (by omega)]
 by_cases h0:n / 10=0
 ·rw [if_pos h0,Lib.decDigits,dif_pos (by omega),Nat.mod_eq_of_lt (by omega)];rfl
 ·rw [if_neg h0,Lib.decDigits.eq_1 n,dif_neg (by omega)]
theorem Oo {n:Nat} (h:n≤9223372036854775807):(hd n).length≤20:=by
 unfold hd;split
 ·simp
 ·rw [Lib.decDigits_length];exact Za (by omega) (by decide)
structure CU (n least:Nat) where
 m:Nat
 t:List UInt8
 le:m≤n
 h:VW (least - t.length) (hd m)++t=Nt n least
 tl:t.length+(hd m).length≤least+20
theorem O3 {n:Nat} {least:Nat} {t:List UInt8} (h:0<n∨t.length<least):VW (least - (UInt8.ofNat (48+n%10)::t).length) (hd (n / 10))++(UInt8.ofNat (48+n%10)::t)=VW (least - t.length) (hd n)++t:=by
 rcases Nat.eq_zero_or_pos n with h0 | h0
 ·subst h0
  have hlt:t.length<least:=by omega
  have e:least - t.length=(least - (t.length+1))+1:=by omega
  simp only [hd,VW,List.length_cons,if_true,List.length_nil,Nat.sub_zero,List.append_nil,Nat.zero_div,Nat.zero_mod]
  rw [e,KG,KG,List.replicate_succ',List.append_assoc]
  rfl
 ·rw [FE h0]
  unfold VW
  simp only [List.length_append,List.length_cons,List.length_nil]
  rw [show least - (t.length+1) - (hd (n / 10)).length=least - t.length - ((hd (n / 10)).length+(0+1)) by omega]
  simp
def CU.next {n least:Nat} (i:CU n least) (h:0<i.m∨i.t.length<least):CU n least :=
 ⟨i.m / 10,UInt8.ofNat (48+i.m%10)::i.t,by have:=i.le;omega,by rw [O3 h];exact i.h,by
  have:=i.tl
  rcases Nat.eq_zero_or_pos i.m with h0 | h0
  ·have e:hd (i.m / 10)=[]:=by rw [h0];rfl
   rw [e]
   have e2:hd i.m=[]:=by rw [h0];rfl
   rw [e2] at this
   simp at this ⊢;omega
  ·have e:=congrArg List.length (FE h0)
   simp at e ⊢;omega⟩
end
section
open Go.RowKit Ig
section
variable {P:Program} {N:Nat} {m:Sl} {Y:World→Prop} {ty:TypeId}
theorem PG (a:Addr):a.add 0=a:=by simp [Addr.add]
theorem Lz {T e:TypeId} {x:Operand} {hi:Option Operand} {vh:Option Value} {q:Option Addr} {n c sz:Nat} {g:Bool} (h:Nat) (hx:ev m x=some (.slice q n c)) (eh:US m hi=some vh) (hh:vh=some (.int .i64 (h:Int))) (hT:H2 P T=some e) (hs:YA P e=some (g,sz)) (hc:h≤c) :
  Qt P N m Y (.slice T x none hi none) ty (.slice q h c):=fun a w _ _ _ _ ha _=>by
 subst hh
 have e1:q.map (fun a=>a.add 0)=q:=by cases q<;>simp [PG]
 have hrun:(Instr.slice T (.slice q n c) none (some (.int .i64 (h:Int))) none).run P w = .ok (.slice q h c) w:=by
  simp [Instr.slice,run_underlying (Q7 hT),Instr.sliceBounds,Instr.sliceBound,asIntOf,hc,Zo hs,e1]
 simp [execOp,ha.ev hx,ha.US eh,Instr.sliceAt,run_underlying (Q7 hT),hrun]
end
def JL (F:Gs) (r:Sr) (l:List Int):Prop:=Q4 F r.q r.n 1 (l.map Qx)∧l.length=r.n∧r.n≤r.cap
theorem JL.le {F F':Gs} {r:Sr} {l:List Int} (h:JL F r l) (k:Gs.le F F'):JL F' r l:=⟨h.1.le k,h.2⟩
theorem Q4.take {F:Gs} {q:Option Addr} {n k:Nat} {l:List Int} (h:Q4 F q n 1 (l.map Qx)) (hl:l.length=n) (hk:k≤n):Q4 F q k 1 ((l.take k).map Qx):=by
 refine⟨by simp;omega,fun h0=>?_⟩
 obtain ⟨b,off,arr,T,e1,e2,e3⟩:=h.2 (by omega)
 refine⟨b,off,arr,T,e1,e2,fun j u hu=>e3 j u ?_⟩
 rw [List.map_take] at hu
 have hj:j<k:=by
  rcases Nat.lt_or_ge j k with g | g
  ·exact g
  ·rw [List.getElem?_eq_none (by simp;omega)] at hu;cases hu
 rw [List.getElem?_take_of_lt hj] at hu;exact hu
theorem Uh {l:List Int} {k:Nat} (hk:k<l.length) (h:Q2 l=Q2 (l.take (k+1))) (h0:l[k]=0):Q2 l=Q2 (l.take k):=by
 rw [h,List.take_succ_eq_append_getElem hk,h0,YM]
theorem Ug {l:List Int} {k:Nat} (hk:k<l.length) (h:Q2 l=Q2 (l.take (k+1))) (h0:l[k]≠0):Q2 l=l.take (k+1):=by
 rw [h,List.take_succ_eq_append_getElem hk,VF _ h0]
structure xh (l:List Int) where
 k:Nat
 le:k≤l.length
 h:Q2 l=Q2 (l.take k)
theorem Wn {w:World} {F:Gs} {r:Sr} {l:List Int} (hF:Fits F w) (hR:JL F r l) (hl:l.length≤1000000000):QT Tryz.prog 250 [r.v] w F (fun(_:Unit)=>.slice r.q (Q2 l).length r.cap) (fun _ F=>JL F ⟨r.q,(Q2 l).length,r.cap⟩ (Q2 l)):=by
 obtain ⟨q,n,c⟩:=r
 have hn:=hR.2.1
 have hcap:=hR.2.2
 dsimp only at hn hcap
 refine QT.intro (G:=fun F=>JL F ⟨q,n,c⟩ l) Tryz.func250 rfl (by rfl) rfl rfl hF (fun F' hF'=>hR.le hF')<|J_sr<|JS_as rfl<|JS_nt<|QG<|QX<|Xa (ι:=xh l) (fun i=>[(0,.slice q i.k c)]) (fun _=>[]) (fun _ F=>JL F ⟨q,n,c⟩ l) (fun i=>i.k) ⟨n,by omega,by rw [← hn,List.take_length]⟩ ⟨rfl,trivial⟩ subl_r (fun _ h=>h) (fun i=>?_)
 have hle:=i.le
 refine QG<|J_sr<|JS_mv rfl<|QA (Qi rfl Qd)<|QA (QU rfl rfl rfl)<|JS_mv rfl ?_
 refine Qn (t:=6) rfl (fun hb6=>?_) (fun hb6=>?_)
 ·
  have hk0:0<i.k:=by have:=dec_t hb6;omega
  have hk1:i.k - 1<l.length:=by omega
  refine JH _ (fun w F hF h=>h.1.ptr (by dsimp only;omega)) (fun hq=>?_)
  obtain ⟨qb,qo,hq⟩:=hq
  dsimp only at hq
  subst hq
  refine QJ rfl rfl<|JS_mv rfl<|QJ rfl rfl<|JS_mv rfl<|QJ rfl rfl<|QA (Qi rfl Qd)<|QJ rfl rfl<|QA (J7 rfl rfl (by omega))<|QJ rfl rfl<|QA (Qw (i:=i.k - 1) rfl (congrArg (fun z:Int=>some (Value.int .i64 z)) (by omega)) Qd Qs (by omega))<|QJ rfl rfl<|QA (XX (n:=n) (sz:=1) (cs:=l.map Qx) (u:=.int .i64 l[i.k - 1]) rfl Qs (fun F h=>h.1) (by omega) (by simp [hk1,Qx]))<|QJ rfl rfl<|QA (QU rfl rfl rfl)<|QA (Qj rfl rfl rfl)<|QE<|QC ?_
  refine QP rfl (fun hc=>?_) (fun hc=>?_)
  ·
   refine QO<|QC<|QX<|QB<|JS_mv rfl<|JS_mv rfl<|QA (Qi rfl Qd)<|QA (J7 rfl rfl (by omega))<|QA (Lz (i.k - 1) rfl rfl (congrArg (fun z:Int=>some (Value.int .i64 z)) (by omega)) Qd Qs (by omega))<|JS_as rfl<|QE<|Qk ?_
   exact Ql (⟨i.k - 1,by omega,Uh hk1 (by rw [show i.k - 1+1=i.k by omega];exact i.h) (by simpa using hc)⟩:xh l) (by show i.k - 1<i.k;omega) ⟨rfl,trivial⟩ subl_r (fun _ h=>h)
  ·
   refine Qy ?_
   repeat (first | refine QZ ?_ | refine QV (by rfl) ?_)
   refine Qa<|QC<|J_sr<|JS_mv rfl<|JS_as rfl<|JS_nt<|QS ?_
   exact QR () rfl (.tmp rfl .nil) (congrArg (fun k:Nat=>Value.slice _ k c) (by have e:=Ug hk1 (by rw [show i.k - 1+1=i.k by omega];exact i.h) (by simpa using hc);rw [show i.k - 1+1=i.k by omega] at e;rw [e];simp;omega)) (fun F h=>by have hz:(Q2 l).length≤l.length:=Xy l;exact⟨(by have:=h.1.take hn (show(Q2 l).length≤n by omega);rw [← He] at this;exact this),rfl,(by show(Q2 l).length≤c;omega)⟩)
 ·
  refine QN rfl rfl rfl<|QN rfl rfl rfl<|QN rfl rfl rfl<|QN rfl rfl rfl<|QN rfl rfl rfl<|QN rfl rfl rfl<|QN rfl rfl rfl<|QA (Qh rfl rfl rfl)<|JS_nt<|YF rfl<|Qy ?_
  repeat (first | refine QZ ?_ | refine QV (by rfl) ?_)
  refine Qa<|QC<|J_sr<|JS_mv rfl<|JS_as rfl<|JS_nt<|QS ?_
  exact QR () rfl (.tmp rfl .nil) (congrArg (fun k:Nat=>Value.slice _ k c) (by have h0:i.k=0:=(by have:=dec_f hb6;omega);have e:=i.h;rw [h0] at e;simp [PO] at e;rw [e,h0];rfl)) (fun F h=>by have hz:(Q2 l).length≤l.length:=Xy l;exact⟨(by have:=h.1.take hn (show(Q2 l).length≤n by omega);rw [← He] at this;exact this),rfl,(by show(Q2 l).length≤c;omega)⟩)
end
section
open Go.RowKit Ig
theorem Qz.fix {w0:World} {F0:Gs} {bs1 ob:List (Nat×Obj)} {G:Gs→Prop} {T:TypeId} {sz n:Nat} {v:Value} {cs:List Value} (hr:Qz T sz v n cs ob) :
  ∃ r:Sr,v=r.v∧r.n=n∧n≤r.cap∧∀ w,St ⟨w0,F0,bs1++ob,G⟩ w→St ⟨w0,F0,bs1,fun F=>G F∧Q4 F r.q n sz cs⟩ w:=by
 cases hr with
 |nil=>exact⟨⟨Option.none,0,0⟩,rfl,rfl,Nat.le_refl _,fun w hw=>by
   have:=hw.Bb (G':=fun F=>G F∧Q4 F Option.none 0 sz []) (fun F h=>⟨h,Q4.nil F Option.none sz⟩)
   simpa using this⟩
 |some h1 h2 h3 h4 =>
  rename_i b cap rest
  refine⟨⟨Option.some ⟨b,0,Option.none⟩,n,cap⟩,rfl,rfl,h3,fun w hw=>?_⟩
  have:=St.freeze (pre:=bs1) (post:=[]) (b:=b) hw
  rw [List.append_nil] at this
  refine this.Bb fun F h=>⟨h.1,h1,fun _=>⟨b,0,_,T,rfl,h.2,fun j u hu=>?_⟩⟩
  have hj:j<cs.length:=by rcases Nat.lt_or_ge j cs.length with g | g;exact g;rw [List.getElem?_eq_none g] at hu;cases hu
  rw [Nat.zero_add]
  simp only [List.getElem?_toArray]
  rw [List.getElem?_append,if_pos hj];exact hu
theorem dE {Q:Exit→Act→World→Prop} {e:Exit} {N:Nat} {m:Sl} {E E':Env} (h:∀ w,St E w→St E' w) (k:Fin Q e N m E'):Fin Q e N m E:=fun a w ha hw=>k a w ha (h w hw)
theorem Pa {w:World} {F:Gs} {r:Sr} {l:List Int} {i:Nat} (hF:Fits F w) (hR:JL F r l) (hi:i≤1000000000):Qc Tryz.prog 275 [r.v,.int .i64 (i:Int)] w F (.int .i64 (l.getD i 0)):=by
 obtain ⟨q,n,c⟩:=r
 have hn:=hR.2.1
 dsimp only at hn
 refine QT.intro (G:=fun F=>JL F ⟨q,n,c⟩ l) Tryz.func275 rfl (by rfl) rfl rfl hF (fun F' hF'=>hR.le hF') ?_
 dsimp only [Sr.v]
 refine J_sr<|JS_as rfl<|JS_nt<|QG<|J_sr<|JS_mv rfl<|JS_mv rfl<|QA (Qi rfl Qd)<|QA (QU rfl rfl rfl)<|QE<|QC ?_
 refine QP rfl (fun hc=>?_) (fun hc=>?_)
 ·
  have hk1:i<l.length:=by have:=dec_t hc;omega
  refine X3 _ (fun w F hF h=>h.1.ptr (by dsimp only;omega)) (fun hq=>?_)
  obtain ⟨qb,qo,hq⟩:=hq
  dsimp only at hq
  subst hq
  refine J_sr<|JS_mv rfl<|JS_mv rfl<|QA (Qw (i:=i) rfl rfl Qd Qs (by omega))<|QA (XX (n:=n) (sz:=1) (cs:=l.map Qx) (u:=.int .i64 l[i]) rfl Qs (fun F h=>h.1) (by omega) (by simp [hk1,Qx]))<|JS_as rfl<|JS_nt<|QS ?_
  exact QR () rfl (.tmp rfl .nil) (congrArg (Value.int .i64) (by simp [hk1])) (fun _ _=>trivial)
 ·
  refine QO<|QC<|J_sr<|JS_as rfl<|JS_nt<|QS ?_
  exact QR () rfl (.tmp rfl .nil) (congrArg (Value.int .i64) (by have:=dec_f hc;simp [show l.length≤i by omega])) (fun _ _=>trivial)
def B9:Int:=1000000000
structure dJ (a b:List Int) where
 i:Nat
 out:List Int
 carry:Int
 v:Value
 ob:List (Nat×Obj)
 le:i≤max a.length b.length+1
 len:out.length=i
 dg:DG B9 out
 c0:0≤carry
 c1:carry≤1
 cz:max a.length b.length<i→carry=0
 h:dv B9 out+B9^i*carry=dv B9 (a.take i)+dv B9 (b.take i)
 hr:Qz 3 1 v out.length (out.map Qx) ob
theorem Ku (B:Int) (l:List Int) (n:Nat):dv B (l.take (n+1))=dv B (l.take n)+B^n*l.getD n 0:=by
 rcases Nat.lt_or_ge n l.length with h | h
 ·rw [WR B l n h];simp [h]
 ·rw [List.take_of_length_le (by omega),List.take_of_length_le h];simp [h]
end
section
open Go.RowKit Ig
theorem R6 {l:List Int} (h:DG B9 l) (i:Nat):0≤l.getD i 0∧l.getD i 0<1000000000:=h.getD (by decide) i
theorem P0 {l:List Int} {i:Nat} (h:l.length≤i):l.getD i 0=0:=by simp [h]
theorem gh {a b out:List Int} {i:Nat} {c s:Int} (hl:out.length=i) (h:dv B9 out+B9^i*c=dv B9 (a.take i)+dv B9 (b.take i)) (hs:s=a.getD i 0+b.getD i 0+c) :
  dv B9 (out++[s%B9])+B9^(i+1)*(s / B9)=dv B9 (a.take (i+1))+dv B9 (b.take (i+1)):=by
 rw [XS,hl,Ku,Ku,Int.pow_succ,Int.mul_assoc]
 have e:s%B9+B9*(s / B9)=s:=Int.emod_add_mul_ediv s B9
 have e2:B9^i*(s%B9)+B9^i*(B9*(s / B9))=B9^i*s:=by rw [← Int.mul_add,e]
 rw [Int.add_assoc,e2,hs,Int.mul_add,Int.mul_add]
 omega
abbrev Ma (P:Program) (f:FuncId) (args:List Value) (w:World) (F:Gs) (p:List Int→Prop):Prop:=QT P f args w F (fun(c:Sr×List Int)=>.slice c.1.q c.1.n c.1.cap) (fun c F=>JL F c.1 c.2∧DG B9 c.2∧p c.2)
theorem Ev {w:World} {F:Gs} {ra rb:Sr} {a b:List Int} (hF:Fits F w) (hA:JL F ra a) (hB:JL F rb b) (da:DG B9 a) (db:DG B9 b) (la:a.length≤100000000) (lb:b.length≤100000000) :
  Ma Tryz.prog 237 [ra.v,rb.v] w F (fun l=>dv B9 l=dv B9 a+dv B9 b∧l.length≤max a.length b.length+1):=by
 have na:=hA.2.1
 have nb:=hB.2.1
 have h9:B9=1000000000:=rfl
 refine QT.intro (G:=fun F=>JL F ra a∧JL F rb b) Tryz.func237 rfl (by rfl) rfl rfl hF (fun F' hF'=>⟨hA.le hF',hB.le hF'⟩)<|J_sr<|JS_as rfl<|JS_nt<|J_sr<|JS_as rfl<|JS_nt<|J_sr<|JS_as rfl<|JS_nt<|QG<|J_sr<|JS_as rfl<|JS_nt<|QX ?_
 refine Xa (ι:=dJ a b) (fun i=>[(0,ra.v),(1,rb.v),(5,i.v),(6,.int .i64 i.carry),(7,.int .i64 (i.i:Int))]) (fun i=>i.ob) (fun _ F=>JL F ra a∧JL F rb b) (fun i=>max a.length b.length+1 - i.i)
  ⟨0,[],0,.slice none 0 0,[],Nat.zero_le _,rfl,DG.nil _,by decide,by decide,fun _=>rfl,by simp,.nil⟩ ⟨rfl,rfl,rfl,rfl,rfl,trivial⟩ (List.nil_sublist _) (fun _ h=>h) (fun i=>?_)
 have hle:=i.le
 have hlen:=i.len
 have hc0:=i.c0
 have hc1:=i.c1
 refine QG ?_
 refine VR 22 (.bool (decide ((i.i:Int)<ra.n)||decide ((i.i:Int)<rb.n)||decide (i.carry>0))) ?_ ?_
 ·
  refine QB<|JS_mv rfl<|JS_mv rfl<|QA (Qi rfl Qd)<|QA (QU rfl rfl rfl)<|JS_mv rfl ?_
  refine Qn (t:=13) rfl (fun hb13=>?_) (fun hb13=>?_)
  ·
   refine QN rfl rfl rfl<|QN rfl rfl rfl<|QN rfl rfl rfl<|QN rfl rfl rfl<|QA (Qj rfl rfl rfl)<|JS_mv rfl<|QN rfl rfl rfl<|QN rfl rfl rfl<|QA (Qj rfl rfl rfl)<|QE ?_
   exact Jo (exd 15 rfl rfl) (congrArg (fun b=>some (Value.bool b)) (by rw [Bool.eq_iff_iff];simp_all;try omega)) subl_r (fun _ h=>h)
  ·
   refine QJ rfl rfl<|JS_mv rfl<|QJ rfl rfl<|JS_mv rfl<|QJ rfl rfl<|QA (Qi rfl Qd)<|QJ rfl rfl<|QA (QU rfl rfl rfl)<|QA (Qh rfl rfl rfl)<|JS_mv rfl ?_
   refine Qn (t:=19) rfl (fun hb19=>?_) (fun hb19=>?_)
   ·
    refine QN rfl rfl rfl<|QN rfl rfl rfl<|QA (Qj rfl rfl rfl)<|QE ?_
    exact Jo (exd 16 rfl rfl) (congrArg (fun b=>some (Value.bool b)) (by rw [Bool.eq_iff_iff];simp_all;try omega)) subl_r (fun _ h=>h)
   ·
    refine QJ rfl rfl<|JS_mv rfl<|QJ rfl rfl<|QA (QU rfl rfl rfl)<|QA (Qh rfl rfl rfl)<|QE ?_
    exact Jo (exd 16 rfl rfl) (congrArg (fun b=>some (Value.bool b)) (by rw [Bool.eq_iff_iff];simp_all;try omega)) subl_r (fun _ h=>h)
 ·
  refine QP rfl (fun hc=>?_) (fun hc=>?_)
  ·
   have hi:i.i≤max a.length b.length:=by
    rcases Nat.lt_or_ge (max a.length b.length) i.i with g | g
    ·have:=i.cz g
     simp at hc;omega
    ·exact g
   have b1:=R6 da i.i
   have b2:=R6 db i.i
   refine QO<|QC<|QG<|QX<|J_sr<|JS_mv rfl<|JS_mv rfl<|QH rfl (fun w F hF h9=>Pa (r:=ra) (l:=a) hF h9.1 (by omega)) (fun _=>JS_mv rfl<|JS_mv rfl<|QH rfl (fun w F hF h9=>Pa (r:=rb) (l:=b) hF h9.1.2 (by omega)) (fun _=>QA (Qp rfl rfl (by omega))<|JS_mv rfl<|QA (Qp rfl rfl (by omega))<|JS_as rfl<|JS_nt<|J_sr<|JS_mv rfl<|JS_mv rfl<|QA (VH rfl rfl (by omega) (by omega))<|QW rfl (Q7 Qd) Qs Vj rfl rfl (fun b37=>?_)))
   refine VT (bs1:=[]) (ob:=i.ob) (k:=1) (sz:=1) (news:=[.int .i64 ((a.getD i.i 0+b.getD i.i 0+i.carry)%1000000000)]) rfl rfl Qd Qs Vj rfl Db i.hr (Src.row (off:=0) (fun F h=>h.2) (fun j v hv=>by rw [Nat.zero_add];show([Value.int .i64 ((a.getD i.i 0+b.getD i.i 0+i.carry)%1000000000)].toArray)[j]?=some v;rw [List.getElem?_toArray];exact hv) rfl) (by omega) (by omega) (fun u hu=>by rw [List.mem_singleton.1 hu];rfl) (fun v' ob' hr'=>?_)
   refine JS_as rfl<|JS_nt<|QB<|JS_mv rfl<|QA (Wh rfl rfl (by omega) (by omega) (by omega))<|JS_as rfl<|QE<|Qk<|QC<|QB<|JS_mv rfl<|QA (Qp rfl rfl (by omega))<|JS_as rfl<|QE ?_
   exact Ql (⟨i.i+1,i.out++[(a.getD i.i 0+b.getD i.i 0+i.carry)%B9],(a.getD i.i 0+b.getD i.i 0+i.carry) / B9,v',ob',by omega,by simp [hlen],i.dg.append (DG.cons (by rw [h9];omega) (by rw [h9];omega) (DG.nil _)),by rw [h9];omega,by rw [h9];omega,fun g=>by rw [P0 (l:=a) (by omega),P0 (l:=b) (by omega),h9];omega,gh hlen i.h rfl,by simpa [Qx,h9] using hr'⟩:dJ a b) (by show max a.length b.length+1 - (i.i+1)<max a.length b.length+1 - i.i;omega) ⟨rfl,rfl,rfl,rfl,rfl,trivial⟩ subl_r (fun F h=>h.1.1.1)
  ·
   refine Qy ?_
   repeat (first | refine QZ ?_ | refine QV (by rfl) ?_)
   refine Qa<|QC<|J_sr<|JS_mv rfl<|JS_as rfl<|JS_nt<|QS ?_
   obtain ⟨r,hv,hrn,hrc,hfix⟩:=Qz.fix (w0:=w) (F0:=F) (bs1:=[]) (G:=fun F=>JL F ra a∧JL F rb b) i.hr
   refine dE hfix ?_
   have hex:max a.length b.length≤i.i∧i.carry=0:=by simp at hc;omega
   exact QR ((r,i.out):Sr×List Int) rfl (.tmp rfl .nil) hv.symm (fun F h=>⟨⟨by rw [hrn];exact h.2,hrn.symm,by show r.n≤r.cap;omega⟩,i.dg,by have e:=i.h;rw [hex.2,List.take_of_length_le (by omega),List.take_of_length_le (by omega)] at e;simpa using e,by show i.out.length≤_;omega⟩)
end
section
open Go.RowKit Ig
structure dI (a b:List Int) where
 k:Nat
 le:k≤a.length
 h:a.drop k=b.drop k
theorem IW {a b:List Int} {k:Nat} (ha:k<a.length) (hb:k<b.length) (h:a.drop (k+1)=b.drop (k+1)) (e:a[k]=b[k]):a.drop k=b.drop k:=by
 rw [List.drop_eq_getElem_cons ha,List.drop_eq_getElem_cons hb,h,e]
theorem GY {w:World} {F:Gs} {ra rb:Sr} {a b:List Int} (hF:Fits F w) (hA:JL F ra a) (hB:JL F rb b) (da:DG B9 a) (db:DG B9 b) (za:NZ a) (zb:NZ b) (la:a.length≤100000000) (lb:b.length≤100000000) :
  Qc Tryz.prog 238 [ra.v,rb.v] w F (.int .i64 (ZU (dv B9 a) (dv B9 b))):=by
 have h91:(1:Int)<B9:=by decide
 have h90:(0:Int)<B9:=by decide
 obtain ⟨q,n,c⟩:=ra
 obtain ⟨q',n',c'⟩:=rb
 have na:=hA.2.1
 have nb:=hB.2.1
 dsimp only at na nb
 refine QT.intro (G:=fun F=>JL F ⟨q,n,c⟩ a∧JL F ⟨q',n',c'⟩ b) Tryz.func238 rfl (by rfl) rfl rfl hF (fun F' hF'=>⟨hA.le hF',hB.le hF'⟩) ?_
 dsimp only [Sr.v]
 refine J_sr<|JS_as rfl<|JS_nt<|QG<|J_sr<|JS_mv rfl<|QA (Qi rfl Qd)<|JS_mv rfl<|QA (Qi rfl Qd)<|QA (QU rfl rfl rfl)<|QE<|QC ?_
 refine QP rfl (fun hc=>?_) (fun hc=>?_)
 ·
  refine QG<|J_sr<|JS_mv rfl<|QA (Qi rfl Qd)<|JS_mv rfl<|QA (Qi rfl Qd)<|QA (QU rfl rfl rfl)<|QE<|QC ?_
  refine QP rfl (fun hc=>?_) (fun hc2=>?_)
  ·
   refine J_sr<|JS_as rfl<|JS_nt<|QS ?_
   exact QR () rfl (.tmp rfl .nil) (congrArg (Value.int .i64) (Vf (XZ h91 da db zb (by simp at hc;omega)))) (fun _ _=>trivial)
  ·
   refine QO<|QC<|J_sr<|JS_as rfl<|JS_nt<|QS ?_
   exact QR () rfl (.tmp rfl .nil) (congrArg (Value.int .i64) (Gi (XZ h91 db da za (by simp at hc hc2;omega)))) (fun _ _=>trivial)
 ·
  refine QO<|QC<|QG<|J_sr<|JS_mv rfl<|QA (Qi rfl Qd)<|QA (J7 rfl rfl (by omega))<|JS_as rfl<|QE<|QC ?_
  have hab:n=n':=by simp at hc;omega
  refine QX<|Xa (ι:=dI a b) (fun i=>[(0,.slice q n c),(1,.slice q' n' c'),(5,.int .i64 ((i.k:Int) - 1))]) (fun _=>[]) (fun _ F=>JL F ⟨q,n,c⟩ a∧JL F ⟨q',n',c'⟩ b) (fun i=>i.k) ⟨n,by omega,by rw [List.drop_eq_nil_of_le (by omega),List.drop_eq_nil_of_le (by omega)]⟩ ⟨rfl,rfl,rfl,trivial⟩ subl_r (fun _ h=>h) (fun i=>?_)
  have hle:=i.le
  refine QG<|J_sr<|JS_mv rfl<|QA (QU rfl rfl rfl)<|QE<|QC ?_
  refine QP rfl (fun hc=>?_) (fun hc=>?_)
  ·
   refine QO<|QC<|QG<|QX<|QG<|QG ?_
   have hk0:0<i.k:=by have:=dec_t hc;omega
   have hka:i.k - 1<a.length:=by omega
   have hkb:i.k - 1<b.length:=by omega
   refine X3 _ (fun w F hF h=>h.1.1.ptr (by dsimp only;omega)) (fun hq=>?_)
   obtain ⟨qb,qo,hq⟩:=hq
   dsimp only at hq
   subst hq
   refine X3 _ (fun w F hF h=>h.2.1.ptr (by dsimp only;omega)) (fun hq=>?_)
   obtain ⟨qb',qo',hq⟩:=hq
   dsimp only at hq
   subst hq
   refine JR subl_r mixed (by kernel_rfl)<|QM (QD rfl)<|QM (QD rfl)<|QM (Qw (i:=i.k - 1) rfl (congrArg (fun z:Int=>some (Value.int .i64 z)) (by omega)) Qd Qs (by omega))<|QM (XX (n:=n) (sz:=1) (cs:=a.map Qx) (u:=.int .i64 a[i.k - 1]) rfl Qs (fun F h=>h.1.1) (by omega) (by simp [hka,Qx]))<|QM (QD rfl)<|QM (QD rfl)<|QM (Qw (i:=i.k - 1) rfl (congrArg (fun z:Int=>some (Value.int .i64 z)) (by omega)) Qd Qs (by omega))<|QM (XX (n:=n') (sz:=1) (cs:=b.map Qx) (u:=.int .i64 b[i.k - 1]) rfl Qs (fun F h=>h.2.1) (by omega) (by simp [hkb,Qx]))<|QM (QU rfl rfl rfl)<|Q9<|QC ?_
   refine QP rfl (fun hc=>?_) (fun hca=>?_)
   ·
    refine J_sr<|JS_as rfl<|JS_nt<|QS ?_
    repeat (first | refine JE ?_ | refine Q3 ?_)
    exact QR () rfl (.tmp rfl .nil) (congrArg (Value.int .i64) (Vf (SH h90 da db (by omega) (i.k - 1) hka (by rw [show i.k - 1+1=i.k by omega];exact i.h) (dec_t hc)))) (fun _ _=>trivial)
   ·
    refine QO<|QC<|QG<|JR subl_r mixed (by kernel_rfl)<|QM (QD rfl)<|QM (QD rfl)<|QM (Qw (i:=i.k - 1) rfl (congrArg (fun z:Int=>some (Value.int .i64 z)) (by omega)) Qd Qs (by omega))<|QM (XX (n:=n) (sz:=1) (cs:=a.map Qx) (u:=.int .i64 a[i.k - 1]) rfl Qs (fun F h=>h.1.1) (by omega) (by simp [hka,Qx]))<|QM (QD rfl)<|QM (QD rfl)<|QM (Qw (i:=i.k - 1) rfl (congrArg (fun z:Int=>some (Value.int .i64 z)) (by omega)) Qd Qs (by omega))<|QM (XX (n:=n') (sz:=1) (cs:=b.map Qx) (u:=.int .i64 b[i.k - 1]) rfl Qs (fun F h=>h.2.1) (by omega) (by simp [hkb,Qx]))<|QM (QU rfl rfl rfl)<|Q9<|QC ?_
    refine QP rfl (fun hc=>?_) (fun hcb=>?_)
    ·
     refine J_sr<|JS_as rfl<|JS_nt<|QS ?_
     repeat (first | refine JE ?_ | refine Q3 ?_)
     exact QR () rfl (.tmp rfl .nil) (congrArg (Value.int .i64) (Gi (SH h90 db da (by omega) (i.k - 1) hkb (by rw [show i.k - 1+1=i.k by omega];exact i.h.symm) (dec_t hc)))) (fun _ _=>trivial)
    ·
     refine QO<|Qk<|QC<|QB<|JS_mv rfl<|QA (J7 rfl rfl (by omega))<|JS_as rfl<|QE ?_
     exact Ql (⟨i.k - 1,by omega,IW hka hkb (by rw [show i.k - 1+1=i.k by omega];exact i.h) (by simp at hca hcb;omega)⟩:dI a b) (by show i.k - 1<i.k;omega) ⟨rfl,rfl,congrArg (fun z:Int=>some (Value.int .i64 z)) (by dsimp only;omega),trivial⟩ subl_r (fun _ h=>h)
  ·
   refine Qy ?_
   repeat (first | refine QZ ?_ | refine QV (by rfl) ?_)
   refine Qa<|QC<|J_sr<|JS_as rfl<|JS_nt<|QS ?_
   exact QR () rfl (.tmp rfl .nil) (congrArg (Value.int .i64) (by have h0:i.k=0:=(by have:=dec_f hc;omega);have e:=i.h;rw [h0] at e;simp at e;rw [e];exact E7 _)) (fun _ _=>trivial)
end
section
open Go.RowKit Ig
theorem UY {P:Program} {Q:Exit→Act→World→Prop} {c:Code} {N:Nat} {m:Sl} {E E':Env} (h:∀ w,St E w→St E' w) (k:J P c Q N m E'):J P c Q N m E:=fun a w ha hw=>k a w ha (h w hw)
theorem vB {a b out:List Int} {i:Nat} {c c' d:Int} (hl:out.length=i) (h:dv B9 out+dv B9 (b.take i)=dv B9 (a.take i)+B9^i*c) (hd:d=a.getD i 0 - b.getD i 0 - c+B9*c') :
  dv B9 (out++[d])+dv B9 (b.take (i+1))=dv B9 (a.take (i+1))+B9^(i+1)*c':=by
 rw [XS,hl,Ku,Ku,Int.pow_succ,Int.mul_assoc,hd,Int.mul_add,Int.mul_sub,Int.mul_sub]
 omega
structure pW (a b:List Int) where
 i:Nat
 out:List Int
 borrow:Int
 v:Value
 ob:List (Nat×Obj)
 le:i≤a.length
 len:out.length=i
 dg:DG B9 out
 c0:0≤borrow
 c1:borrow≤1
 h:dv B9 out+dv B9 (b.take i)=dv B9 (a.take i)+B9^i*borrow
 hr:Qz 3 1 v out.length (out.map Qx) ob
end
section
open Go.RowKit Ig
theorem Nu.one {l:List Value} {v:Value}:∀ {n:Nat},l[n]?=some v→Nu l n [v]:=by
 induction l with
 |nil=>intro n h;simp at h
 |cons x l ih =>
  intro n h
  cases n with
  |zero=>simp at h;subst h;exact .here .nil
  |succ n=>exact .skip (ih (by simpa using h))
theorem Ko.one {l:List Value} {v:Value}:∀ {n:Nat},n<l.length→Ko l n [v] (l.set n v):=by
 induction l with
 |nil=>intro n h;simp at h
 |cons x l ih =>
  intro n h
  cases n with
  |zero=>exact .here .nil
  |succ n=>exact .skip (ih (by simpa using h))
def GL (la lb:List Int) (i j:Nat) (x:Int) (o:List Int) (c:Int):Prop :=
 o.length=la.length+lb.length∧DG B9 o∧(∀ p,i+lb.length≤p→Qb o p=0)∧(0≤c∧c<B9) ∧
  dv B9 o+B9^(i+j)*c=dv B9 (la.take i)*dv B9 lb+B9^i*(x*dv B9 (lb.take j))
theorem JF:(0:Int)<B9:=by decide
theorem A7 {x y o c:Int} (hx:0≤x∧x<B9) (hy:0≤y∧y<B9) (ho:0≤o∧o<B9) (hc:0≤c∧c<B9):0≤x*y∧x*y≤999999998000000001∧0≤o+x*y+c∧(o+x*y+c) / B9<B9:=by
 have h9:B9=1000000000:=rfl
 have h0:=Int.mul_nonneg hx.1 hy.1
 have h1:x*y≤(B9 - 1)*(B9 - 1):=Int.mul_le_mul (by omega) (by omega) hy.1 (by omega)
 generalize x*y=m at *
 have q:=h9 ▸ hx.2
 generalize hB:B9=B at *
 subst h9
 omega
theorem GL.step {la lb o:List Int} {i j:Nat} {x c s:Int} (h:GL la lb i j x o c) (hx:0≤x∧x<B9) (hb:DG B9 lb) (hj:j<lb.length) (hi:i<la.length) (hs:s=Qb o (i+j)+x*Qb lb j+c) :
  GL la lb i (j+1) x (o.set (i+j) (s%B9)) (s / B9):=by
 obtain ⟨h1,h2,h3,h4,h5⟩:=h
 obtain ⟨m0,m1,m2,m3⟩:=A7 hx (hb.Qb JF j) (h2.Qb JF (i+j)) h4
 rw [← hs] at m2 m3
 refine⟨by simpa using h1,h2.set _ (Int.emod_nonneg _ (by decide)) (Int.emod_lt_of_pos _ JF),?_,⟨Int.ediv_nonneg m2 (by decide),m3⟩,?_⟩
 ·intro p hp
  rw [Ve (by omega),if_neg (by omega)];exact h3 p hp
 ·rw [GF B9 (by omega),VN,← Nat.add_assoc,Int.pow_succ]
  have e0:s%B9+B9*(s / B9)=s:=Int.emod_add_mul_ediv s B9
  generalize s%B9=lo at *
  generalize s / B9=hi at *
  have e:B9^(i+j)*(lo+B9*hi)=B9^(i+j)*(Qb o (i+j)+x*Qb lb j+c):=by rw [e0,hs]
  rw [Int.pow_add] at *
  generalize B9^i=u at *
  generalize B9^j=v at *
  generalize B9=B at *
  grind
theorem GL.row {la lb o:List Int} {i:Nat} {x c:Int} (h:GL la lb i lb.length x o c) (hi:i<la.length) (hx:x=Qb la i) :
  GL la lb (i+1) 0 0 (o.set (i+lb.length) c) 0:=by
 obtain ⟨h1,h2,h3,h4,h5⟩:=h
 refine⟨by simpa using h1,h2.set _ h4.1 h4.2,?_,⟨Int.le_refl _,JF⟩,?_⟩
 ·intro p hp
  rw [Ve (by omega),if_neg (by omega)];exact h3 p (by omega)
 ·rw [GF B9 (by omega),h3 _ (Nat.le_refl _),VN,← hx]
  rw [List.take_length] at h5
  simp only [Int.mul_zero,Int.add_zero,Int.zero_mul,Int.sub_zero]
  rw [h5]
  generalize B9^i=u at *
  generalize B9=B at *
  grind
theorem GL.start (la lb:List Int):GL la lb 0 0 0 (List.replicate (la.length+lb.length) 0) 0:=by
 refine⟨by simp,DG.replicate JF _,?_,⟨Int.le_refl _,JF⟩,by rw [NX];simp⟩
 intro p _;unfold Qb;split<;>simp
theorem GL.next {la lb o:List Int} {i:Nat} (h:GL la lb i 0 0 o 0) (x:Int):GL la lb i 0 x o 0:=by
 obtain ⟨h1,h2,h3,h4,h5⟩:=h
 exact⟨h1,h2,h3,h4,by simpa using h5⟩
theorem GL.stop {la lb o:List Int} {i:Nat} (h:GL la lb i 0 0 o 0) (hi:la.length≤i):dv B9 o=dv B9 la*dv B9 lb:=by
 have e:=h.2.2.2.2
 rw [List.take_of_length_le hi] at e
 simpa using e
end
section
open Go.RowKit Ig
theorem Da {o:List Int} {k:Nat} (h:k<o.length):(o.map Qx)[0+k*1]?=some (.int .i64 (Qb o k)):=by
 rw [X7 h];simp [h,Qx]
theorem JJ {o:List Int} {k:Nat} (h:k<o.length):(o.map Qx)[k*1]?=some (.int .i64 (Qb o k)):=by
 rw [X7 h];simp [h,Qx]
theorem Ga {o:List Int} {k:Nat} (h:k<o.length) (x:Int):Ko (o.map Qx) (0+k*1) [.int .i64 x] ((o.set k x).map Qx):=by
 have:=Ko.one (l:=o.map Qx) (n:=0+k*1) (v:=.int .i64 x) (by simpa using h)
 simpa [List.map_set,Qx] using this
structure gp (a b:List Int) where
 i:Nat
 o:List Int
 le:i≤a.length
 h:GL a b i 0 0 o 0
structure gn (a b:List Int) (i:Nat) where
 j:Nat
 o:List Int
 c:Int
 le:j≤b.length
 h:GL a b i j (Qb a i) o c
theorem GW {w:World} {F:Gs} {ra rb:Sr} {a b:List Int} (hF:Fits F w) (hA:JL F ra a) (hB:JL F rb b) (da:DG B9 a) (db:DG B9 b) (la:a.length≤100000000) (lb:b.length≤100000000) :
  Ma Tryz.prog 240 [ra.v,rb.v] w F (fun l=>dv B9 l=dv B9 a*dv B9 b∧NZ l∧l.length≤a.length+b.length):=by
 obtain ⟨q,n,c⟩:=ra
 obtain ⟨q',n',c'⟩:=rb
 have na:=hA.2.1
 have nb:=hB.2.1
 dsimp only at na nb
 have h9:B9=1000000000:=rfl
 refine QT.intro (G:=fun F=>JL F ⟨q,n,c⟩ a∧JL F ⟨q',n',c'⟩ b) Tryz.func240 rfl (by rfl) rfl rfl hF (fun F' hF'=>⟨hA.le hF',hB.le hF'⟩) ?_
 dsimp only [Sr.v]
 refine J_sr<|JS_as rfl<|JS_nt<|J_sr<|JS_mv rfl<|QA (Qi rfl Qd)<|JS_mv rfl<|QA (Qi rfl Qd)<|QA (Qp rfl rfl (by omega))<|Nz (n:=n+n') (bytes:=8) rfl rfl Qd Qs Vj rfl Db (by omega) (by omega) (fun bk=>?_)
 rw [show X2 [Value.int .i64 0] (n+n')=(List.replicate (a.length+b.length) (0:Int)).map Qx by rw [VD,na,nb];simp [Qx]]
 refine JS_as rfl<|JS_nt<|QG<|J_sr<|JS_as rfl<|JS_nt<|QX ?_
 refine Xa (ι:=gp a b) (fun i=>[(0,.slice q n c),(1,.slice q' n' c'),(5,.slice (some ⟨bk,0,none⟩) (n+n') (n+n')),(6,.int .i64 (i.i:Int))]) (fun i=>[(bk,.cells (i.o.map Qx).toArray 3 (0,0))]) (fun _ F=>JL F ⟨q,n,c⟩ a∧JL F ⟨q',n',c'⟩ b) (fun i=>a.length - i.i)
  ⟨0,_,Nat.zero_le _,GL.start a b⟩ ⟨rfl,rfl,rfl,rfl,trivial⟩ subl_r (fun _ h=>h) (fun i=>?_)
 have hile:=i.le
 refine QG<|J_sr<|JS_mv rfl<|JS_mv rfl<|QA (Qi rfl Qd)<|QA (QU rfl rfl rfl)<|QE<|QC ?_
 refine QP rfl (fun hc=>?_) (fun hc=>?_)
 ·
  have hi:i.i<n:=by have:=dec_t hc;omega
  have hia:i.i<a.length:=by omega
  refine X3 _ (fun w F hF h=>h.1.1.ptr (by dsimp only;omega)) (fun hq=>?_)
  obtain ⟨qb,qo,hq⟩:=hq
  dsimp only at hq
  subst hq
  refine QO<|QC<|QG<|QX<|J_sr<|JS_as rfl<|JS_nt<|QG<|J_sr<|JS_as rfl<|JS_nt<|QX ?_
  refine Xa (ι:=gn a b i.i) (fun i2=>[(0,.slice (some ⟨qb,qo,none⟩) n c),(1,.slice q' n' c'),(5,.slice (some ⟨bk,0,none⟩) (n+n') (n+n')),(6,.int .i64 (i.i:Int)),(7,.int .i64 i2.c),(8,.int .i64 (i2.j:Int))]) (fun i2=>[(bk,.cells (i2.o.map Qx).toArray 3 (0,0))]) (fun _ F=>JL F ⟨some ⟨qb,qo,none⟩,n,c⟩ a∧JL F ⟨q',n',c'⟩ b) (fun i2=>b.length - i2.j)
   ⟨0,i.o,0,Nat.zero_le _,i.h.next _⟩ ⟨rfl,rfl,rfl,rfl,rfl,rfl,trivial⟩ subl_r (fun _ h=>h) (fun i2=>?_)
  have hjle:=i2.le
  have hol:i2.o.length=a.length+b.length:=i2.h.1
  have hcc:=i2.h.2.2.2.1
  refine QG<|J_sr<|JS_mv rfl<|JS_mv rfl<|QA (Qi rfl Qd)<|QA (QU rfl rfl rfl)<|QE<|QC ?_
  refine QP rfl (fun hc=>?_) (fun hc=>?_)
  ·
   have hj:i2.j<n':=by have:=dec_t hc;omega
   have hjb:i2.j<b.length:=by omega
   have hko:i.i+i2.j<i2.o.length:=by omega
   have bx:=da.Qb JF i.i
   have by':=db.Qb JF i2.j
   have bo:=i2.h.2.1.Qb JF (i.i+i2.j)
   have bd:=A7 bx by' bo hcc
   have hst:=i2.h.step bx db hjb hia rfl
   refine X3 _ (fun w F hF h=>h.2.1.ptr (by dsimp only;omega)) (fun hq=>?_)
   obtain ⟨qb',qo',hq⟩:=hq
   dsimp only at hq
   subst hq
   refine QO<|QC<|QG<|QX<|QG<|JR subl_r mixed (by kernel_rfl)<|QM (QD rfl)<|QM (QD rfl)<|QM (QD rfl)<|QM (Qp rfl rfl (by omega))<|QM (Qw (i:=i.i+i2.j) rfl rfl Qd Qs (by omega))<|QM (YN (c:=i2.o.map Qx) (T':=3) rfl Qs .here (Da hko))<|QM (QD rfl)<|QM (QD rfl)<|QM (Qw (i:=i.i) rfl rfl Qd Qs (by omega))<|QM (XX (n:=n) (sz:=1) (cs:=a.map Qx) rfl Qs (fun F h=>h.1.1) (by omega) (JJ hia))<|QM (QD rfl)<|QM (QD rfl)<|QM (Qw (i:=i2.j) rfl rfl Qd Qs (by omega))<|QM (XX (n:=n') (sz:=1) (cs:=b.map Qx) rfl Qs (fun F h=>h.2.1) (by omega) (JJ hjb))<|QM (Wo rfl rfl (by omega))<|QM (Qp rfl rfl (by omega))<|QM (QD rfl)<|QM (Qp rfl rfl (by omega))<|QM (QF rfl) ?_
   refine Q9<|QC<|J_sr<|JS_mv rfl<|JS_mv rfl<|JS_mv rfl<|QA (Qp rfl rfl (by omega))<|JS_mv rfl<|QA (VH rfl rfl (by omega) (by omega))<|QA (Qw (i:=i.i+i2.j) rfl rfl Qd Qs (by omega))<|QQ (vs:=[_]) rfl rfl rfl Qs rfl .here (Ga hko _) ⟨rfl,trivial⟩<|JS_nt<|QB<|JS_mv rfl<|QA (Wh rfl rfl (by omega) (by omega) (by omega))<|JS_as rfl<|QE<|Qk<|QC<|QB<|JS_mv rfl<|QA (Qp rfl rfl (by omega))<|JS_as rfl ?_
   refine QE ?_
   exact Ql (⟨i2.j+1,i2.o.set (i.i+i2.j) _,_,by omega,hst⟩:gn a b i.i) (by show b.length - (i2.j+1)<b.length - i2.j;omega) ⟨rfl,rfl,rfl,rfl,rfl,rfl,trivial⟩ subl_r (fun _ h=>h)
  ·
   have hjn:i2.j=b.length:=by have:=dec_f hc;omega
   have hko2:i.i+n'<i2.o.length:=by omega
   have hrow:GL a b (i.i+1) 0 0 (i2.o.set (i.i+n') i2.c) 0:=by
    have e:=i2.h
    rw [hjn] at e
    have:=e.row hia rfl
    rwa [nb] at this
   have hz:Qb i2.o (i.i+n')=0:=i2.h.2.2.1 _ (by omega)
   refine Qy ?_
   repeat (first | refine QZ ?_ | refine QV (by rfl) ?_)
   refine Qa<|QC<|QB<|JS_mv rfl<|JS_mv rfl<|JS_mv rfl<|QA (Qi rfl Qd)<|QA (Qp rfl rfl (by omega))<|JS_mv rfl<|JS_mv rfl<|JS_mv rfl<|QA (Qi rfl Qd)<|QA (Qp rfl rfl (by omega))<|QA (Qw (i:=i.i+n') rfl rfl Qd Qs (by omega))<|QA (YN (c:=i2.o.map Qx) (T':=3) rfl Qs .here (Da hko2))<|JS_mv rfl<|QA (Qp rfl rfl (by omega))<|QA (Qw (i:=i.i+n') rfl rfl Qd Qs (by omega))<|QQ (vs:=[_]) rfl rfl rfl Qs rfl .here (Ga hko2 _) ⟨rfl,trivial⟩<|QE<|Qk<|QC<|QB<|JS_mv rfl<|QA (Qp rfl rfl (by omega)) ?_
   refine JS_as rfl<|QE ?_
   exact Ql (⟨i.i+1,i2.o.set (i.i+n') i2.c,by omega,hrow⟩:gp a b) (by show a.length - (i.i+1)<a.length - i.i;omega) ⟨rfl,rfl,rfl,rfl,trivial⟩ (by rw [hz,Int.zero_add];exact List.Sublist.refl _) (fun _ h=>h)
 ·
  refine Qy ?_
  repeat (first | refine QZ ?_ | refine QV (by rfl) ?_)
  refine Qa<|QC<|QG ?_
  have hex:a.length≤i.i:=by have:=dec_f hc;omega
  have hol:i.o.length=a.length+b.length:=i.h.1
  have hr:Qz 3 1 (.slice (some ⟨bk,0,none⟩) (n+n') (n+n')) (n+n') (i.o.map Qx) [(bk,.cells (i.o.map Qx).toArray 3 (0,0))]:=by
   have:=Qz.some (T:=3) (sz:=1) (b:=bk) (n:=n+n') (cap:=n+n') (l:=i.o.map Qx) (rest:=[]) (by simp;omega) (by simp;omega) (Nat.le_refl _) (Nat.le_trans (show n+n'≤200000000 by omega) (by decide))
   simpa using this
  obtain ⟨r,hv,hrn,hrc,hfix⟩:=Qz.fix (w0:=w) (F0:=F) (bs1:=[]) (G:=fun F=>JL F ⟨q,n,c⟩ a∧JL F ⟨q',n',c'⟩ b) hr
  have hlz:=Xy i.o
  refine UY hfix ?_
  rw [hv]
  refine QB<|JS_mv rfl<|QH rfl (fun w F hF h9=>Wn (r:=r) (l:=i.o) hF ⟨by rw [hrn];exact h9.2,by rw [hrn];omega,by omega⟩ (by omega)) (fun c71=>JS_as rfl<|JS_nt<|QS ?_)
  exact QR ((⟨r.q,(Q2 i.o).length,r.cap⟩,Q2 i.o):Sr×List Int) rfl (.tmp rfl .nil) rfl (fun F h=>⟨h.2,i.h.2.1.Q2,by show dv B9 (Q2 i.o)=_;rw [XB];exact i.h.stop hex,Xh _,by show(Q2 i.o).length≤_;omega⟩)
end
section
open Go.RowKit Ig
structure dG (a:List Int) (d:Int) where
 k:Nat
 o:List Int
 r:Int
 le:k≤a.length
 len:o.length=a.length
 dg:DG B9 o
 r0:0≤r
 r1:r<d
 h:dv B9 (a.drop k)=d*dv B9 (o.drop k)+r
theorem set_drop {o:List Int} {p:Nat} (h:p<o.length) (v:Int):(o.set p v).drop p=v::o.drop (p+1):=by
 rw [List.drop_eq_getElem_cons (by simpa using h)]
 congr 1
 ·simp
 ·rw [List.drop_set_of_lt (by omega)]
theorem jK {r d x:Int} (r0:0≤r) (r1:r<d) (hd:d<B9) (hx:0≤x∧x<B9):0≤r*B9+x∧0≤(r*B9+x) / d∧(r*B9+x) / d<B9∧0≤(r*B9+x)%d∧(r*B9+x)%d<d:=by
 have h0:0≤r*B9:=Int.mul_nonneg r0 (by decide)
 refine⟨by omega,Int.ediv_nonneg (by omega) (by omega),Int.ediv_lt_of_lt_mul (by omega) ?_,Int.emod_nonneg _ (by omega),Int.emod_lt_of_pos _ (by omega)⟩
 have h1:(r+1)*B9≤d*B9:=Int.mul_le_mul_of_nonneg_right (by omega) (by decide)
 rw [Int.add_mul,Int.one_mul] at h1
 rw [Int.mul_comm B9 d]
 omega
theorem yB {a o:List Int} {d r s:Int} {p:Nat} (hp:p<a.length) (ho:p<o.length) (h:dv B9 (a.drop (p+1))=d*dv B9 (o.drop (p+1))+r) (hs:s=r*B9+Qb a p) :
  dv B9 (a.drop p)=d*dv B9 ((o.set p (s / d)).drop p)+s%d:=by
 rw [set_drop ho,List.drop_eq_getElem_cons hp,← X7 hp]
 simp only [dv]
 rw [h]
 have e:s%d+d*(s / d)=s:=Int.emod_add_mul_ediv s d
 generalize s / d=u at *
 generalize s%d=v at *
 generalize B9=B at *
 grind
end
section
open Go.RowKit Ig
theorem D3 {w:World} {F:Gs} {ra:Sr} {a:List Int} {d:Int} (hF:Fits F w) (hA:JL F ra a) (da:DG B9 a) (la:a.length≤100000000) (d0:0<d) (d1:d<B9) :
  QT Tryz.prog 249 [ra.v,.int .i64 d] w F (fun(c:(Sr×List Int)×Int)=>.tuple [.slice c.1.1.q c.1.1.n c.1.1.cap,.int .i64 c.2].toArray) (fun c F=>JL F c.1.1 c.1.2∧DG B9 c.1.2∧NZ c.1.2∧0≤c.2∧c.2<d∧dv B9 a=d*dv B9 c.1.2+c.2∧c.1.2.length≤a.length):=by
 obtain ⟨q,n,c⟩:=ra
 have na:=hA.2.1
 dsimp only at na
 have h9:B9=1000000000:=rfl
 refine QT.intro (G:=fun F=>JL F ⟨q,n,c⟩ a) Tryz.func249 rfl (by rfl) rfl rfl hF (fun F' hF'=>hA.le hF') ?_
 dsimp only [Sr.v]
 refine J_sr<|JS_as rfl<|JS_as rfl<|JS_nt<|J_sr<|JS_mv rfl<|QA (Qi rfl Qd)<|Nz (n:=n) (bytes:=8) rfl rfl Qd Qs Vj rfl Db (by omega) (by omega) (fun bk=>?_)
 rw [show X2 [Value.int .i64 0] n=(List.replicate a.length (0:Int)).map Qx by rw [VD,na];simp [Qx]]
 refine JS_as rfl<|JS_nt<|J_sr<|JS_as rfl<|JS_nt<|QG<|J_sr<|JS_mv rfl<|QA (Qi rfl Qd)<|QA (J7 rfl rfl (by omega))<|JS_as rfl<|JS_nt<|QX ?_
 refine Xa (ι:=dG a d) (fun i=>[(0,.slice q n c),(1,.int .i64 d),(6,.slice (some ⟨bk,0,none⟩) n n),(7,.int .i64 i.r),(8,.int .i64 ((i.k:Int) - 1))]) (fun i=>[(bk,.cells (i.o.map Qx).toArray 3 (0,0))]) (fun _ F=>JL F ⟨q,n,c⟩ a) (fun i=>i.k)
  ⟨n,List.replicate a.length 0,0,by omega,by simp,DG.replicate JF _,Int.le_refl _,d0,by rw [List.drop_eq_nil_of_le (by omega),List.drop_eq_nil_of_le (by simp;omega)];simp [dv]⟩ ⟨rfl,rfl,rfl,rfl,rfl,trivial⟩ subl_r (fun _ h=>h) (fun i=>?_)
 have hile:=i.le
 have hol:=i.len
 have hr0:=i.r0
 have hr1:=i.r1
 refine QG<|J_sr<|JS_mv rfl<|QA (QU rfl rfl rfl)<|QE<|QC ?_
 refine QP rfl (fun hc=>?_) (fun hc=>?_)
 ·
  have hk0:0<i.k:=by have:=dec_t hc;omega
  have hka:i.k - 1<a.length:=by omega
  have hko:i.k - 1<i.o.length:=by omega
  have bx:=da.Qb JF (i.k - 1)
  have bd:=jK hr0 hr1 d1 bx
  rw [h9] at bd
  have hst:=yB (d:=d) (r:=i.r) (s:=i.r*1000000000+Qb a (i.k - 1)) hka hko (by rw [show i.k - 1+1=i.k by omega];exact i.h) rfl
  refine X3 _ (fun w F hF h=>h.1.ptr (by dsimp only;omega)) (fun hq=>?_)
  obtain ⟨qb,qo,hq⟩:=hq
  dsimp only at hq
  subst hq
  refine QO<|QC<|QG<|QX<|J_sr<|JS_mv rfl<|QA (Wo rfl rfl (by omega))<|JS_mv rfl<|JS_mv rfl<|QA (Qw (i:=i.k - 1) rfl (congrArg (fun z:Int=>some (Value.int .i64 z)) (by omega)) Qd Qs (by omega))<|QA (XX (n:=n) (sz:=1) (cs:=a.map Qx) rfl Qs (fun F h=>h.1) (by omega) (JJ hka))<|QA (Qp rfl rfl (by omega))<|JS_as rfl<|JS_nt<|J_sr<|JS_mv rfl<|JS_mv rfl<|JS_mv rfl<|JS_mv rfl<|QA (Wh rfl rfl (by omega) (by omega) (by omega))<|QA (Qw (i:=i.k - 1) rfl (congrArg (fun z:Int=>some (Value.int .i64 z)) (by omega)) Qd Qs (by omega))<|QQ (vs:=[_]) rfl rfl rfl Qs rfl .here (Ga hko _) ⟨rfl,trivial⟩ ?_
  refine JS_nt<|QB<|JS_mv rfl<|JS_mv rfl<|QA (VH rfl rfl (by omega) (by omega))<|JS_as rfl<|QE<|Qk<|QC<|QB<|JS_mv rfl<|QA (J7 rfl rfl (by omega))<|JS_as rfl<|QE ?_
  exact Ql (⟨i.k - 1,i.o.set (i.k - 1) ((i.r*1000000000+Qb a (i.k - 1)) / d),(i.r*1000000000+Qb a (i.k - 1))%d,by omega,by simpa using hol,i.dg.set _ bd.2.1 bd.2.2.1,bd.2.2.2.1,bd.2.2.2.2,hst⟩:dG a d) (by show i.k - 1<i.k;omega) ⟨rfl,rfl,rfl,rfl,congrArg (fun z:Int=>some (Value.int .i64 z)) (by dsimp only;omega),trivial⟩ subl_r (fun _ h=>h)
 ·
  refine Qy ?_
  repeat (first | refine QZ ?_ | refine QV (by rfl) ?_)
  refine Qa<|QC<|QG ?_
  have hex:i.k=0:=by have:=dec_f hc;omega
  have hr:Qz 3 1 (.slice (some ⟨bk,0,none⟩) n n) n (i.o.map Qx) [(bk,.cells (i.o.map Qx).toArray 3 (0,0))]:=by
   have:=Qz.some (T:=3) (sz:=1) (b:=bk) (n:=n) (cap:=n) (l:=i.o.map Qx) (rest:=[]) (by simp;omega) (by simp;omega) (Nat.le_refl _) (Nat.le_trans (show n≤200000000 by omega) (by decide))
   simpa using this
  obtain ⟨r,hv,hrn,hrc,hfix⟩:=Qz.fix (w0:=w) (F0:=F) (bs1:=[]) (G:=fun F=>JL F ⟨q,n,c⟩ a) hr
  have hlz:=Xy i.o
  have hfin:=i.h
  rw [hex,List.drop_zero,List.drop_zero] at hfin
  refine UY hfix ?_
  rw [hv]
  refine QB<|JS_mv rfl<|QH rfl (fun w F hF h9=>Wn (r:=r) (l:=i.o) hF ⟨by rw [hrn];exact h9.2,by rw [hrn];omega,by omega⟩ (by omega)) (fun c37=>JS_mv rfl<|JS_as rfl<|JS_as rfl<|JS_nt<|QS ?_)
  exact JX (((⟨r.q,(Q2 i.o).length,r.cap⟩,Q2 i.o),i.r):(Sr×List Int)×Int) rfl (.tmp rfl (.tmp rfl .nil)) rfl (fun F h=>⟨h.2,i.dg.Q2,Xh _,hr0,hr1,by show _=d*dv B9 (Q2 i.o)+i.r;rw [XB];exact hfin,by show(Q2 i.o).length≤_;omega⟩)
end
section
open Go.RowKit Ig
theorem zr {u v:List Int} {n:Nat} {t r:Int} (h:VQ B9 u v n) (t0:0≤t) (e:t*Qb v (n+1)+r=Qb u (n+2)*B9+Qb u (n+1)) (hc:r*B9+Qb u n<t*Qb v n):dv B9 u<t*dv B9 v:=by
 obtain ⟨a1,a2,a3⟩:=Zs (b:=B9) (by decide) h.hu h.lu
 obtain ⟨b1,b2,b3⟩:=Y6 (b:=B9) (by decide) h.hv h.lv
 rw [a1,b1]
 refine NJ b2 a3 (pow_pos JF n) t0 ?_
 rw [← e]
 generalize B9=B at *
 grind
theorem gL {u v:List Int} {n:Nat} {t:Int} (h:VQ B9 u v n) (ht:B9≤t):dv B9 u<t*dv B9 v:=by
 have h0:=Qu (b:=B9) (by decide) h.hv
 have h1:B9*dv B9 v≤t*dv B9 v:=Int.mul_le_mul_of_nonneg_right ht h0
 have:=h.lt
 omega
theorem jB {u v:List Int} {n:Nat} {t:Int} (h:VQ B9 u v n) (t0:0≤t) (ht:Qb u (n+2)*B9+Qb u (n+1)<(t+1)*Qb v (n+1)):dv B9 u<(t+1)*dv B9 v:=by
 obtain ⟨a1,a2,a3⟩:=Zs (b:=B9) (by decide) h.hu h.lu
 obtain ⟨b1,b2,b3⟩:=Y6 (b:=B9) (by decide) h.hv h.lv
 rw [a1,b1]
 refine NJ b2 a3 (pow_pos JF n) (by omega) ?_
 have d1:=h.hu.Qb JF n
 have d2:=h.hv.Qb JF n
 have e1:0≤(t+1)*Qb v n:=Int.mul_nonneg (by omega) d2.1
 have e2:(Qb u (n+2)*B9+Qb u (n+1)+1)*B9≤(t+1)*Qb v (n+1)*B9:=Int.mul_le_mul_of_nonneg_right (by omega) (by decide)
 generalize B9=B at *
 generalize Qb u (n+2)=u0 at *
 generalize Qb u (n+1)=u1 at *
 generalize Qb u n=u2 at *
 generalize Qb v (n+1)=v1 at *
 generalize Qb v n=v2 at *
 grind
theorem xR {u v:List Int} {n:Nat} {t r:Int} (h:VQ B9 u v n) (t0:0≤t) (t1:t<B9) (e:t*Qb v (n+1)+r=Qb u (n+2)*B9+Qb u (n+1)) (hc:t*Qb v n≤r*B9+Qb u n):(t - 1)*dv B9 v≤dv B9 u:=by
 obtain ⟨a1,a2,a3⟩:=Zs (b:=B9) (by decide) h.hu h.lu
 obtain ⟨b1,b2,b3⟩:=Y6 (b:=B9) (by decide) h.hv h.lv
 rw [a1,b1]
 have d2:=h.hv.Qb JF n
 have d3:1*B9≤Qb v (n+1)*B9:=Int.mul_le_mul_of_nonneg_right (by have:=h.nz;omega) (by decide)
 refine Tj (pow_pos JF n) b3 a2 t0 ?_ (by omega) b2
 rw [← e]
 generalize B9=B at *
 grind
end
section
open Go.RowKit Ig
theorem Zh {o:List Int} {rest:List Value} {k:Nat} (h:k<o.length):(o.map Qx++rest)[0+k*1]?=some (.int .i64 (Qb o k)):=by
 rw [List.getElem?_append,if_pos (by simp;omega)];exact Da h
theorem qC {l vs l' rest:List Value} {n:Nat} (h:Ko l n vs l'):Ko (l++rest) n vs (l'++rest):=by
 induction h with
 |nil=>exact .nil
 |here h ih=>exact .here ih
 |skip h ih=>exact .skip ih
theorem VK {o:List Int} {rest:List Value} {k:Nat} (h:k<o.length) (x:Int):Ko (o.map Qx++rest) (0+k*1) [.int .i64 x] ((o.set k x).map Qx++rest):=qC (Ga h x)
def FX (u v:List Int) (t:Int):Prop:=0≤t∧t<B9∧(t - 1)*dv B9 v≤dv B9 u∧dv B9 u<(t+1)*dv B9 v
structure u5 (u v:List Int) (m:Nat) where
 t:Int
 r:Int
 t0:0≤t
 r0:0≤r
 r1:r<B9
 t2:t≤1000000000000000000
 e:t*Qb v (m+1)+r=Qb u (m+2)*B9+Qb u (m+1)
 h:dv B9 u<(t+1)*dv B9 v
theorem Na {U:List Int} {j m k:Nat} (h:k<m):Qb ((U.drop j).take m) k=Qb U (j+k):=by
 by_cases g:j+k<U.length
 ·rw [X7 (by simp;omega),X7 g];simp
 ·rw [Gx (by simp;omega),Gx (by omega)]
theorem FG {u v:List Int} {n:Nat} {t r:Int} (h:VQ B9 u v n) (t0:0≤t) (e:t*Qb v (n+1)+r=Qb u (n+2)*B9+Qb u (n+1)) (hr:B9≤r) (hu:dv B9 u<(t+1)*dv B9 v):FX u v t:=by
 have ht:=h.top (by decide)
 have d0:=h.hu.Qb JF n
 have d1:=h.hu.Qb JF (n+1)
 have d2:=h.hv.Qb JF n
 have hn:=h.nz
 have e1:Qb u (n+2)*B9≤Qb v (n+1)*B9:=Int.mul_le_mul_of_nonneg_right ht (by decide)
 have t1:t<B9:=by
  refine Int.not_le.1 fun hc=>?_
  have e2:B9*Qb v (n+1)≤t*Qb v (n+1):=Int.mul_le_mul_of_nonneg_right hc (by omega)
  rw [Int.mul_comm] at e2
  omega
 refine⟨t0,t1,xR h t0 t1 e ?_,hu⟩
 have e3:t*Qb v n≤B9*B9:=Int.mul_le_mul (by omega) (by omega) d2.1 (by decide)
 have e4:B9*B9≤r*B9:=Int.mul_le_mul_of_nonneg_right hr (by decide)
 omega
theorem P1 {u v:List Int} {t:Int} (hu:DG B9 u) (t0:0≤t) (h:dv B9 u<t*dv B9 v):0≤t - 1:=by
 have:=Qu (b:=B9) (by decide) hu
 rcases Int.lt_or_le 0 t with g | g
 ·omega
 ·have e:t=0:=by omega
  subst e;rw [Int.zero_mul] at h;omega
theorem Lv {rest:List Value} {w0:World} {F0:Gs} {G:Gs→Prop} {bs:List (Nat×Obj)} {bu nu cu j m:Nat} {rv:Sr} {U v:List Int} (hU:U.length=nu) (hj:j+m+3≤nu) (hn:nu≤1000000000) (hG:∀ F,G F→JL F rv v) (hS:VQ B9 ((U.drop j).take (m+3)) v m) :
  J9 Tryz.prog 251 [.slice (some ⟨bu,0,none⟩) nu cu,rv.v,.int .i64 (j:Int)] ⟨w0,F0,(bu,.cells (U.map Qx++rest).toArray 3 (0,0))::bs,G⟩ (fun t:Int=>.int .i64 t) (fun t=>⟨w0,F0,(bu,.cells (U.map Qx++rest).toArray 3 (0,0))::bs,fun F=>G F∧FX ((U.drop j).take (m+3)) v t⟩):=by
 obtain ⟨q,n,c⟩:=rv
 have hlv:=hS.lv
 have h9:B9=1000000000:=rfl
 have u2:Qb ((U.drop j).take (m+3)) (m+2)=Qb U (j+(m+2)):=Na (by omega)
 have u1:Qb ((U.drop j).take (m+3)) (m+1)=Qb U (j+(m+1)):=Na (by omega)
 have u0:Qb ((U.drop j).take (m+3)) m=Qb U (j+m):=Na (by omega)
 have b2:=hS.hu.Qb JF (m+2)
 have b1:=hS.hu.Qb JF (m+1)
 have b0:=hS.hu.Qb JF m
 have c1:=hS.hv.Qb JF (m+1)
 have c0:=hS.hv.Qb JF m
 have nz:=hS.nz
 refine J9.intro Tryz.func251 rfl rfl rfl rfl ?_
 dsimp only [Sr.v]
 refine X3 _ (fun w F hF h=>(hG F h).2.1) (fun hnv=>?_)
 dsimp only at hnv
 obtain rfl:n=m+2:=by omega
 refine X3 _ (fun w F hF h=>(hG F h).1.ptr (by dsimp only;omega)) (fun hq=>?_)
 obtain ⟨qb,qo,hq⟩:=hq
 dsimp only at hq
 subst hq
 refine J_sr<|JS_as rfl<|JS_nt<|J_sr<|JS_mv rfl<|QA (Qi rfl Qd)<|JS_as rfl<|JS_nt<|QG<|JR subl_r mixed (by kernel_rfl)<|QM (QD rfl)<|QM (QD rfl)<|QM (QD rfl)<|QM (Qp rfl rfl (by omega))<|QM (Qw (i:=j+(m+2)) rfl (congrArg (fun z:Int=>some (Value.int .i64 z)) (by omega)) Qd Qs (by omega))<|QM (YN (v:=.int .i64 (Qb ((U.drop j).take (m+3)) (m+2))) (c:=U.map Qx++rest) (T':=3) rfl Qs .here (by rw [u2];exact Zh (by omega)))<|QM (Wo rfl rfl (by omega))<|QM (QD rfl)<|QM (QD rfl)<|QM (QD rfl)<|QM (Qp rfl rfl (by omega)) ?_
 refine QM (J7 rfl rfl (by omega))<|QM (Qw (i:=j+(m+1)) rfl (congrArg (fun z:Int=>some (Value.int .i64 z)) (by omega)) Qd Qs (by omega))<|QM (YN (v:=.int .i64 (Qb ((U.drop j).take (m+3)) (m+1))) (c:=U.map Qx++rest) (T':=3) rfl Qs .here (by rw [u1];exact Zh (by omega)))<|QM (Qp rfl rfl (by omega))<|QM (QF rfl)<|Q9<|QC<|QG<|JR subl_r mixed (by kernel_rfl)<|QM (QD rfl)<|QM (QD rfl)<|QM (QD rfl)<|QM (J7 rfl rfl (by omega))<|QM (Qw (i:=m+1) rfl (congrArg (fun z:Int=>some (Value.int .i64 z)) (by omega)) Qd Qs (by omega))<|QM (XX (n:=m+2) (sz:=1) (cs:=v.map Qx) rfl Qs (fun F h=>(hG F h).1) (by omega) (JJ (show m+1<v.length by omega)))<|QM (Wh rfl rfl (by omega) (by omega) (by omega))<|QM (QD rfl)<|QM (QD rfl)<|QM (QD rfl)<|QM (J7 rfl rfl (by omega))<|QM (Qw (i:=m+1) rfl (congrArg (fun z:Int=>some (Value.int .i64 z)) (by omega)) Qd Qs (by omega))<|QM (XX (n:=m+2) (sz:=1) (cs:=v.map Qx) rfl Qs (fun F h=>(hG F h).1) (by omega) (JJ (show m+1<v.length by omega)))<|QM (VH rfl rfl (by omega) (by omega))<|QM (QF rfl)<|QM (QF rfl) ?_
 refine Q9<|QC<|QG<|QX ?_
 refine Xa (ι:=u5 ((U.drop j).take (m+3)) v m) (fun i=>[(0,.slice (some ⟨bu,0,none⟩) nu cu),(1,.slice (some ⟨qb,qo,none⟩) (m+2) c),(2,.int .i64 (j:Int)),(7,.int .i64 ((m+2:Nat):Int)),(9,.int .i64 i.t),(10,.int .i64 i.r)]) (fun _=>(bu,.cells (U.map Qx++rest).toArray 3 (0,0))::bs) (fun _=>G) (fun i=>i.t.toNat)
  ⟨(Qb ((U.drop j).take (m+3)) (m+2)*1000000000+Qb ((U.drop j).take (m+3)) (m+1)) / Qb v (m+1),(Qb ((U.drop j).take (m+3)) (m+2)*1000000000+Qb ((U.drop j).take (m+3)) (m+1))%Qb v (m+1),Int.ediv_nonneg (by omega) (by omega),Int.emod_nonneg _ (by omega),Int.lt_trans (Int.emod_lt_of_pos _ nz) c1.2,Int.le_trans (Int.ediv_le_self (a:=(Qb ((U.drop j).take (m+3)) (m+2)*1000000000+Qb ((U.drop j).take (m+3)) (m+1))) _ (by omega)) (by omega),by rw [Int.mul_comm,Int.add_comm];exact Int.emod_add_mul_ediv _ _,jB hS (Int.ediv_nonneg (by omega) (by omega)) (Int.lt_ediv_add_one_mul_self _ nz)⟩ ⟨rfl,rfl,rfl,rfl,rfl,rfl,trivial⟩ subl_r (fun _ h=>h) (fun i=>?_)
 have t0:=i.t0
 have r0:=i.r0
 have r1:=i.r1
 have t2:=i.t2
 refine QG<|QG<|JR subl_r mixed (by kernel_rfl)<|QM (QD rfl)<|QM (QU rfl rfl rfl)<|QM (QD rfl) ?_
 refine HQ (t:=44) rfl (fun hb44=>?_) (fun hb44=>?_)
 ·
  refine Jl rfl rfl rfl<|Jl rfl rfl rfl<|Jl rfl rfl rfl<|Jl rfl rfl rfl<|Jl rfl rfl rfl<|Jl rfl rfl rfl<|Jl rfl rfl rfl<|Jl rfl rfl rfl<|Jl rfl rfl rfl<|Jl rfl rfl rfl<|Jl rfl rfl rfl<|Jl rfl rfl rfl<|Jl rfl rfl rfl<|Jl rfl rfl rfl<|Jl rfl rfl rfl<|Jl rfl rfl rfl<|Jl rfl rfl rfl<|Jl rfl rfl rfl<|QM (Qj rfl rfl rfl)<|Q9<|QC<|Wu rfl ?_
  have hl:dv B9 ((U.drop j).take (m+3))<i.t*dv B9 v:=gL hS (by have:=dec_t hb44;omega)
  refine QO<|QC<|QX<|J_sr<|JS_mv rfl<|QA (J7 rfl rfl (by omega))<|JS_as rfl<|JS_nt<|J_sr<|JS_mv rfl<|JS_mv rfl<|JS_mv rfl<|QA (J7 rfl rfl (by omega))<|QA (Qw (i:=m+1) rfl (congrArg (fun z:Int=>some (Value.int .i64 z)) (by omega)) Qd Qs (by omega))<|QA (XX (n:=m+2) (sz:=1) (cs:=v.map Qx) rfl Qs (fun F h=>(hG F h).1) (by omega) (JJ (show m+1<v.length by omega)))<|QA (Qp rfl rfl (by omega))<|JS_as rfl<|JS_nt<|J_sr<|JS_mv rfl ?_
  refine QA (QU rfl rfl rfl)<|QE<|QC ?_
  refine QP rfl (fun hc=>?_) (fun hc=>?_)
  ·
   refine J_sr<|JS_mv rfl<|JS_as rfl<|JS_nt<|QS ?_
   repeat (first | refine JE ?_ | refine Q3 ?_)
   exact Yt (i.t - 1) rfl (.tmp rfl .nil) rfl (fun w h=>h.imp subl_r (fun F h=>⟨h,FG (r:=i.r+Qb v (m+1)) hS (P1 hS.hu t0 hl) (by rw [Int.sub_mul,Int.one_mul,← i.e];omega) (by have:=dec_t hc;omega) (by rw [Int.sub_add_cancel];exact hl)⟩))
  ·
   refine QO<|Qk ?_
   exact Ql (⟨i.t - 1,i.r+Qb v (m+1),(P1 hS.hu t0 hl),by omega,by have:=dec_f hc;omega,by omega,(by rw [Int.sub_mul,Int.one_mul,← i.e];omega),(by rw [Int.sub_add_cancel];exact hl)⟩:u5 ((U.drop j).take (m+3)) v m) (by show(i.t - 1).toNat<i.t.toNat;have:=(P1 hS.hu t0 hl);omega) ⟨rfl,rfl,rfl,rfl,rfl,rfl,trivial⟩ subl_r (fun _ h=>h)
 ·
  have tb:i.t<B9:=by have:=dec_f hb44;omega
  have p0:0≤i.t*Qb v m:=Int.mul_nonneg t0 c0.1
  have p1:i.t*Qb v m≤1000000000*1000000000:=Int.mul_le_mul (by omega) (by omega) c0.1 (by decide)
  refine Jx rfl rfl<|QM (QD rfl)<|Jx rfl rfl<|QM (QD rfl)<|Jx rfl rfl<|QM (QD rfl)<|Jx rfl rfl<|QM (J7 rfl rfl (by omega))<|Jx rfl rfl<|QM (Qw (i:=m) rfl (congrArg (fun z:Int=>some (Value.int .i64 z)) (by omega)) Qd Qs (by omega))<|Jx rfl rfl<|QM (XX (n:=m+2) (sz:=1) (cs:=v.map Qx) rfl Qs (fun F h=>(hG F h).1) (by omega) (JJ (show m<v.length by omega)))<|Jx rfl rfl<|QM (Wo rfl rfl (by omega))<|Jx rfl rfl<|QM (QD rfl)<|Jx rfl rfl<|QM (Wo rfl rfl (by omega))<|Jx rfl rfl<|QM (QD rfl)<|Jx rfl rfl<|QM (QD rfl)<|Jx rfl rfl<|QM (QD rfl)<|Jx rfl rfl ?_
  refine QM (Qp rfl rfl (by omega))<|Jx rfl rfl<|QM (J7 rfl rfl (by omega))<|Jx rfl rfl<|QM (Qw (i:=j+m) rfl (congrArg (fun z:Int=>some (Value.int .i64 z)) (by omega)) Qd Qs (by omega))<|Jx rfl rfl<|QM (YN (v:=.int .i64 (Qb ((U.drop j).take (m+3)) (m))) (c:=U.map Qx++rest) (T':=3) rfl Qs .here (by rw [u0];exact Zh (by omega)))<|Jx rfl rfl<|QM (Qp rfl rfl (by omega))<|Jx rfl rfl<|QM (QU rfl rfl rfl)<|QM (Qh rfl rfl rfl)<|Q9<|QC ?_
  refine QP rfl (fun hc=>?_) (fun hc=>?_)
  ·
   have hl:dv B9 ((U.drop j).take (m+3))<i.t*dv B9 v:=zr hS t0 i.e (by have:=dec_t hc;rw [h9];omega)
   refine QO<|QC<|QX<|J_sr<|JS_mv rfl<|QA (J7 rfl rfl (by omega))<|JS_as rfl<|JS_nt<|J_sr<|JS_mv rfl<|JS_mv rfl<|JS_mv rfl<|QA (J7 rfl rfl (by omega))<|QA (Qw (i:=m+1) rfl (congrArg (fun z:Int=>some (Value.int .i64 z)) (by omega)) Qd Qs (by omega))<|QA (XX (n:=m+2) (sz:=1) (cs:=v.map Qx) rfl Qs (fun F h=>(hG F h).1) (by omega) (JJ (show m+1<v.length by omega)))<|QA (Qp rfl rfl (by omega))<|JS_as rfl<|JS_nt<|J_sr<|JS_mv rfl ?_
   refine QA (QU rfl rfl rfl)<|QE<|QC ?_
   refine QP rfl (fun hc=>?_) (fun hc=>?_)
   ·
    refine J_sr<|JS_mv rfl<|JS_as rfl<|JS_nt<|QS ?_
    repeat (first | refine JE ?_ | refine Q3 ?_)
    exact Yt (i.t - 1) rfl (.tmp rfl .nil) rfl (fun w h=>h.imp subl_r (fun F h=>⟨h,FG (r:=i.r+Qb v (m+1)) hS (P1 hS.hu t0 hl) (by rw [Int.sub_mul,Int.one_mul,← i.e];omega) (by have:=dec_t hc;omega) (by rw [Int.sub_add_cancel];exact hl)⟩))
   ·
    refine QO<|Qk ?_
    exact Ql (⟨i.t - 1,i.r+Qb v (m+1),(P1 hS.hu t0 hl),by omega,by have:=dec_f hc;omega,by omega,(by rw [Int.sub_mul,Int.one_mul,← i.e];omega),(by rw [Int.sub_add_cancel];exact hl)⟩:u5 ((U.drop j).take (m+3)) v m) (by show(i.t - 1).toNat<i.t.toNat;have:=(P1 hS.hu t0 hl);omega) ⟨rfl,rfl,rfl,rfl,rfl,rfl,trivial⟩ subl_r (fun _ h=>h)
  ·
   refine Qy ?_
   repeat (first | refine QZ ?_ | refine QV (by rfl) ?_)
   refine Qa<|QC<|J_sr<|JS_mv rfl<|JS_as rfl<|JS_nt<|QS ?_
   exact Yt (i.t) rfl (.tmp rfl .nil) rfl (fun w h=>h.imp subl_r (fun F h=>⟨h,⟨t0,tb,xR hS t0 tb i.e (by have:=dec_f hc;rw [h9];omega),i.h⟩⟩))
end
end Go.Proofs.YtknegjaeoffnbaaGreatDoor
namespace Ig
structure PH (b:Int) (U v:List Int) (j:Nat) (t:Int) (i:Nat) (U':List Int) (br:Int):Prop where
 len:U'.length=U.length
 dg:DG b U'
 lo:U'.take j=U.take j
 hi:U'.drop (j+i)=U.drop (j+i)
 ug:0≤br
 pT:br≤b
 h:dv b U'+b^j*(t*dv b (v.take i))=dv b U+b^(j+i)*br
theorem PH.start {b:Int} (hb:0≤b) {U v:List Int} (hU:DG b U) (j:Nat) (t:Int):PH b U v j t 0 U 0 :=
 ⟨rfl,hU,rfl,rfl,Int.le_refl _,hb,by simp⟩
theorem O1 {l:List Int} {p k:Nat}:Qb (l.drop p) k=Qb l (p+k):=by
 by_cases g:p+k<l.length
 ·rw [X7 (by simp;omega),X7 g];simp
 ·rw [Gx (by simp;omega),Gx (by omega)]
theorem ZY {l m:List Int} {p q:Nat} (h:l.drop p=m.drop p) (hq:p≤q):Qb l q=Qb m q:=by
 have:=congrArg (fun x=>Qb x (q - p)) h
 simp only [O1] at this
 rw [show p+(q - p)=q by omega] at this;exact this
theorem Cz {b t x br:Int} (hb:1<b) (ht:0≤t∧t<b) (hx:0≤x∧x<b) (h:0≤br∧br≤b):0≤t*x∧t*x≤(b - 1)*(b - 1)∧0≤(t*x+br) / b∧(t*x+br) / b<b:=by
 have h0:=Int.mul_nonneg ht.1 hx.1
 have h1:t*x≤(b - 1)*(b - 1):=Int.mul_le_mul (by omega) (by omega) hx.1 (by omega)
 refine⟨h0,h1,Int.ediv_nonneg (by omega) (by omega),Int.ediv_lt_of_lt_mul (by omega) ?_⟩
 have e:(b - 1)*(b - 1)=b*b - 2*b+1:=by grind
 omega
theorem PH.step {b:Int} {U v U':List Int} {j i:Nat} {t br x br':Int} (h:PH b U v j t i U' br) (hj:j+i<U.length)
  (hx:0≤x∧x<b) (hbr:br'≤b∧0≤br') (e:x - b*br'=Qb U (j+i) - (t*Qb v i+br)):PH b U v j t (i+1) (U'.set (j+i) x) br':=by
 obtain ⟨h1,h2,h3,h4,h5,h6,h7⟩:=h
 have hd:Qb U' (j+i)=Qb U (j+i):=ZY h4 (Nat.le_refl _)
 refine⟨by simpa using h1,h2.set _ hx.1 hx.2,?_,?_,hbr.2,hbr.1,?_⟩
 ·rw [List.take_set_of_le (by omega)];exact h3
 ·rw [List.drop_set_of_lt (by omega),← Nat.add_assoc,← List.drop_drop,h4,List.drop_drop]
 ·rw [GF b (by omega),hd,VN,← Nat.add_assoc,Int.pow_succ]
  have e':b^(j+i)*(x - b*br')=b^(j+i)*(Qb U (j+i) - (t*Qb v i+br)):=by rw [e]
  rw [Int.pow_add] at *
  generalize b^i=p at *
  generalize b^j=q at *
  grind
structure SN (b:Int) (U v:List Int) (j n:Nat) (t:Int) (U':List Int) (top:Int):Prop where
 len:U'.length=U.length
 dg:DG b (U'.set (j+n) 0)
 lo:U'.take j=U.take j
 hi:U'.drop (j+n+1)=U.drop (j+n+1)
 tp:Qb U' (j+n)=top
 h:dv b U'=dv b U - b^j*(t*dv b v)
theorem PH.stop {b:Int} (hb:1<b) {U v U':List Int} {j n:Nat} {t br:Int} (h:PH b U v j t n U' br) (hn:v.length=n) (hj:j+n<U.length):SN b U v j n t (U'.set (j+n) (Qb U (j+n) - br)) (Qb U (j+n) - br):=by
 obtain ⟨h1,h2,h3,h4,h5,h6,h7⟩:=h
 have hd:Qb U' (j+n)=Qb U (j+n):=ZY h4 (Nat.le_refl _)
 refine⟨by simpa using h1,?_,?_,?_,?_,?_⟩
 ·rw [List.set_set];exact h2.set _ (Int.le_refl _) (by omega)
 ·rw [List.take_set_of_le (by omega)];exact h3
 ·rw [List.drop_set_of_lt (by omega),← List.drop_drop,h4,List.drop_drop]
 ·rw [Ve (by omega),if_pos rfl]
 ·rw [GF b (by omega),hd]
  rw [List.take_of_length_le (by omega)] at h7
  generalize b^(j+n)=p at *
  generalize b^j=q at *
  grind
theorem X6 (b:Int) (l:List Int) (j:Nat):dv b l=dv b (l.take j)+b^j*dv b (l.drop j):=by
 by_cases h:j≤l.length
 ·exact KM b l j h
 ·rw [List.take_of_length_le (by omega),List.drop_of_length_le (by omega)];simp
theorem SN.part {b:Int} (hb:0<b) {U v U':List Int} {j n:Nat} {t top:Int} (h:SN b U v j n t U' top):dv b (U'.drop j)=dv b (U.drop j) - t*dv b v:=by
 have e:=h.h
 rw [X6 b U' j,X6 b U j,h.lo] at e
 have hp:=pow_pos hb j
 have e2:b^j*dv b (U'.drop j)=b^j*(dv b (U.drop j) - t*dv b v):=by
  rw [Int.mul_sub];generalize b^j*dv b (U'.drop j)=x at *;generalize b^j*dv b (U.drop j)=y at *;omega
 exact Int.eq_of_mul_eq_mul_left (by omega) e2
theorem Dw {l:List Int} {j n:Nat} (h:j+n<l.length):l.drop j=(l.drop j).take n++Qb l (j+n)::l.drop (j+n+1):=by
 have e:(l.drop j).drop n=Qb l (j+n)::l.drop (j+n+1):=by
  rw [List.drop_drop,J8 h]
 rw [← e,List.take_append_drop]
theorem IK {b:Int} (hb:1<b) {U:List Int} {k n:Nat} (hU:DG b U) (h:dv b (U.drop k)<b^n):dv b (U.drop (k+n))=0:=by
 have e:=X6 b (U.drop k) n
 rw [List.drop_drop] at e
 have h1:=Qu (b:=b) (by omega) ((hU.drop k).take n)
 have h2:=Qu (b:=b) (by omega) (hU.drop (k+n))
 have hp:=pow_pos (b:=b) (by omega) n
 rcases Int.lt_or_le 0 (dv b (U.drop (k+n))) with g | g
 ·have:b^n*1≤b^n*dv b (U.drop (k+n)):=Int.mul_le_mul_of_nonneg_left (by omega) (by omega)
  rw [Int.mul_one] at this;omega
 ·omega
theorem SN.sign {b:Int} (hb:1<b) {U v U':List Int} {j n:Nat} {t top:Int} (h:SN b U v j n t U' top) (hz:dv b (U.drop (j+n+1))=0) (hj:j+n<U.length) :
  ∃ lo,0≤lo∧lo<b^n∧dv b (U'.drop j)=lo+b^n*top:=by
 have hlen:=h.len
 have hw:=Dw (l:=U') (j:=j) (n:=n) (by omega)
 refine⟨dv b ((U'.drop j).take n),?_,?_,?_⟩
 ·have:DG b ((U'.drop j).take n):=by
   have:=((h.dg.drop j).take n)
   rw [List.drop_set,if_neg (by omega),Nat.add_sub_cancel_left,List.take_set_of_le (Nat.le_refl _)] at this;exact this
  exact Qu (by omega) this
 ·have:DG b ((U'.drop j).take n):=by
   have:=((h.dg.drop j).take n)
   rw [List.drop_set,if_neg (by omega),Nat.add_sub_cancel_left,List.take_set_of_le (Nat.le_refl _)] at this;exact this
  have h2:=Z1 (by omega:0<b) this
  rw [show((U'.drop j).take n).length=n by simp;omega] at h2;exact h2
 ·have e:=congrArg (dv b) hw
  rw [ZL,YO,h.hi,hz,h.tp,show((U'.drop j).take n).length=n by simp;omega] at e
  simpa using e
theorem SN.zw {b:Int} (hb:1<b) {U v U':List Int} {j n:Nat} {t top:Int} (h:SN b U v j n t U' top) (hj:j+n<U.length) (h0:0≤top) (ht:top<b)
  (g:dv b (U.drop j)<(t+1)*dv b v):DG b U'∧dv b (U'.drop j)<dv b v∧dv b U'=dv b U - b^j*(t*dv b v):=by
 have hp:=h.part (by omega)
 refine⟨?_,?_,h.h⟩
 ·have e:U'=(U'.set (j+n) 0).set (j+n) top:=by
   rw [List.set_set]
   have:=h.tp
   rw [X7 (by rw [h.len];exact hj)] at this
   rw [← this,List.set_getElem_self]
  rw [e];exact h.dg.set _ h0 ht
 ·rw [hp];rw [Int.add_mul,Int.one_mul] at g;omega
structure B8 (b:Int) (U v:List Int) (j n i:Nat) (U':List Int) (c:Int):Prop where
 len:U'.length=U.length
 dg:DG b (U'.set (j+n) 0)
 lo:U'.take j=U.take j
 hi:U'.drop (j+i)=U.drop (j+i)
 c0:0≤c
 c1:c≤1
 h:dv b U'+b^(j+i)*c=dv b U+b^j*dv b (v.take i)
theorem B8.start {b:Int} {U v:List Int} {j n:Nat} (hU:DG b (U.set (j+n) 0)):B8 b U v j n 0 U 0 :=
 ⟨rfl,hU,rfl,rfl,Int.le_refl _,by omega,by simp⟩
theorem B8.step {b:Int} {U v U':List Int} {j n i:Nat} {c x c':Int} (h:B8 b U v j n i U' c) (hi:i<n) (hj:j+n<U.length)
  (hx:0≤x∧x<b) (hc:0≤c'∧c'≤1) (e:x+b*c'=Qb U (j+i)+Qb v i+c):B8 b U v j n (i+1) (U'.set (j+i) x) c':=by
 obtain ⟨h1,h2,h3,h4,h5,h6,h7⟩:=h
 have hd:Qb U' (j+i)=Qb U (j+i):=ZY h4 (Nat.le_refl _)
 refine⟨by simpa using h1,?_,?_,?_,hc.1,hc.2,?_⟩
 ·rw [List.set_comm _ _ (by omega)];exact h2.set _ hx.1 hx.2
 ·rw [List.take_set_of_le (by omega)];exact h3
 ·rw [List.drop_set_of_lt (by omega),← Nat.add_assoc,← List.drop_drop,h4,List.drop_drop]
 ·rw [GF b (by omega),hd,VN,← Nat.add_assoc,Int.pow_succ]
  have e':b^(j+i)*(x+b*c')=b^(j+i)*(Qb U (j+i)+Qb v i+c):=by rw [e]
  rw [Int.pow_add] at *
  generalize b^i=p at *
  generalize b^j=q at *
  grind
theorem B8.Qb {b:Int} (hb:1<b) {U v U':List Int} {j n i:Nat} {c:Int} (h:B8 b U v j n i U' c) (hi:i<n):0≤Qb U' (j+i)∧Qb U' (j+i)<b:=by
 have:=h.dg.Qb (by omega) (j+i)
 by_cases g:j+n<U'.length
 ·rw [Ve g,if_neg (by omega)] at this;exact this
 ·rw [List.set_eq_of_length_le (by omega)] at this;exact this
theorem B8.zw {b:Int} (hb:1<b) {U v U1 U':List Int} {j n:Nat} {t top c:Int} (h:B8 b U1 v j n n U' c) (hs:SN b U v j n t U1 top) (hU:DG b U) (hv:DG b v) (hn:v.length=n) (hz:dv b (U.drop (j+n+1))=0) (hj:j+n<U.length) (h0:top<0)
  (g:(t - 1)*dv b v≤dv b (U.drop j)):DG b (U'.set (j+n) (top+c))∧dv b ((U'.set (j+n) (top+c)).drop j)<dv b v∧dv b (U'.set (j+n) (top+c))=dv b U - b^j*((t - 1)*dv b v)∧0≤t - 1∧(U'.set (j+n) (top+c)).length=U.length:=by
 obtain ⟨lo,l0,l1,l2⟩:=hs.sign hb hz hj
 have hp:=hs.part (by omega)
 have hlen:=hs.len
 obtain ⟨a1,a2,a3,a4,a5,a6,a7⟩:=h
 have hd:Ig.Qb U' (j+n)=top:=by rw [ZY a4 (Nat.le_refl _),hs.tp]
 rw [List.take_of_length_le (by omega)] at a7
 have hv0:=Qu (b:=b) (by omega) hv
 have hv1:=Z1 (b:=b) (by omega) hv
 rw [hn] at hv1
 have hB:=pow_pos (b:=b) (by omega) n
 have hw:dv b (U'.set (j+n) (top+c))=dv b U - b^j*((t - 1)*dv b v):=by
  rw [GF b (by omega),hd]
  have e:=hs.h
  generalize b^(j+n)=p at *
  generalize b^j=q at *
  grind
 have hlo:(U'.set (j+n) (top+c)).take j=U.take j:=by
  rw [List.take_set_of_le (by omega),a3,hs.lo]
 have hpart:dv b ((U'.set (j+n) (top+c)).drop j)=dv b (U.drop j) - (t - 1)*dv b v:=by
  have e:=hw
  rw [X6 b _ j,X6 b U j,hlo] at e
  have hq:=pow_pos (b:=b) (by omega) j
  have e2:b^j*dv b ((U'.set (j+n) (top+c)).drop j)=b^j*(dv b (U.drop j) - (t - 1)*dv b v):=by
   rw [Int.mul_sub];generalize b^j*dv b ((U'.set (j+n) (top+c)).drop j)=x at *;generalize b^j*dv b (U.drop j)=y at *;omega
  exact Int.eq_of_mul_eq_mul_left (by omega) e2
 have hneg:dv b (U1.drop j)<0:=by
  rw [l2]
  have:b^n*top≤b^n*(-1):=Int.mul_le_mul_of_nonneg_left (by omega) (by omega)
  omega
 have hlt:dv b ((U'.set (j+n) (top+c)).drop j)<dv b v:=by
  rw [hpart,Int.sub_mul,Int.one_mul];omega
 have hge:0≤dv b ((U'.set (j+n) (top+c)).drop j):=by rw [hpart];omega
 have hsd:dv b ((U'.set (j+n) (top+c)).drop j)=dv b ((U'.drop j).take n)+b^n*(top+c):=by
  have hw2:=congrArg (dv b) (Dw (l:=U'.set (j+n) (top+c)) (j:=j) (n:=n) (by simp;omega))
  have e3:(U'.set (j+n) (top+c)).drop (j+n+1)=U'.drop (j+n+1):=List.drop_set_of_lt (by omega)
  rw [ZL,YO,Ve (show j+n<U'.length by omega),if_pos rfl,e3] at hw2
  have:dv b (U'.drop (j+n+1))=0:=by
   rw [← List.drop_drop,a4,List.drop_drop,hs.hi];exact hz
  have e2:((U'.set (j+n) (top+c)).drop j).take n=(U'.drop j).take n:=by
   rw [List.drop_set,if_neg (by omega),Nat.add_sub_cancel_left,List.take_set_of_le (Nat.le_refl _)]
  rw [this,e2,show((U'.drop j).take n).length=n by simp;omega] at hw2
  simpa using hw2
 have hdg:DG b ((U'.drop j).take n):=by
  have:=((a2.drop j).take n)
  rw [List.drop_set,if_neg (by omega),Nat.add_sub_cancel_left,List.take_set_of_le (Nat.le_refl _)] at this;exact this
 have d0:=Qu (b:=b) (by omega) hdg
 have d1:=Z1 (b:=b) (by omega) hdg
 rw [show((U'.drop j).take n).length=n by simp;omega] at d1
 have ht0:top+c=0:=by
  rw [hsd] at hlt hge
  have q1:¬ 1≤top+c:=fun q=>by
   have:b^n*1≤b^n*(top+c):=Int.mul_le_mul_of_nonneg_left q (by omega)
   omega
  have q2:¬ top+c≤-1:=fun q=>by
   have:b^n*(top+c)≤b^n*(-1):=Int.mul_le_mul_of_nonneg_left q (by omega)
   omega
  omega
 refine⟨?_,hlt,hw,?_,by simp;omega⟩
 ·rw [ht0];exact a2
 ·rcases Int.lt_or_le (t - 1) 0 with q | q
  ·exfalso
   have u0:=Qu (b:=b) (by omega) (hU.drop j)
   have:t*dv b v≤0:=Int.mul_nonpos_of_nonpos_of_nonneg (by omega) hv0
   omega
  ·exact q
end Ig
namespace Go.Proofs.YtknegjaeoffnbaaGreatDoor
section
open Go.RowKit Ig
def el {α:Type} [Inhabited α] (l:List α) (i:Nat):α:=l.getD i default
theorem ZA {α:Type} [Inhabited α] {l:List α} {i:Nat} (h:i<l.length):el l i=l[i]:=by simp [el,h]
theorem JN {α:Type} [Inhabited α] {l:List α} {i:Nat} (h:i<l.length):el l i∈l:=by rw [ZA h];exact List.getElem_mem h
theorem J2 {α:Type} [Inhabited α] {f:α→List Value} {k:Nat} (hf:∀ x,(f x).length=k) {l:List α} {i j:Nat} {u:Value} (h:i<l.length) (hj:(f (el l i))[j]?=some u):(l.flatMap f)[i*k+j]?=some u:=by
 have hlt:j<k:=by
  rcases Nat.lt_or_ge j k with g | g
  ·exact g
  ·rw [List.getElem?_eq_none (by rw [hf];exact g)] at hj;cases hj
 rw [R8 hf l i j h hlt,← ZA h];exact hj
theorem DR {α:Type} [Inhabited α] {f:α→Value} {l:List α} {i:Nat} (h:i<l.length):(l.map f)[i*1]?=some (f (el l i)):=by
 rw [Nat.mul_one,List.getElem?_map,List.getElem?_eq_getElem h,ZA h];rfl
theorem X4 {α:Type} [Inhabited α] {l:List α} {i:Nat} (h:i<l.length):l.take (i+1)=l.take i++[el l i]:=by
 rw [List.take_succ_eq_append_getElem h,ZA h]
theorem E4 {α:Type} [Inhabited α] {l:List α} {i:Nat} (h:i<l.length):l.drop i=el l i::l.drop (i+1):=by
 rw [List.drop_eq_getElem_cons h,ZA h]
theorem Xx {l:List Int} {i:Nat} (h:i<l.length):Qb l i=el l i:=by rw [X7 h,ZA h]
def zE (q:Option Addr):Nat:=(q.getD ⟨0,0,none⟩).block
def zD (q:Option Addr):Nat:=(q.getD ⟨0,0,none⟩).off
section
variable [Dr] [df:Df] {P:Program} {Q:Exit→Act→World→Prop} {N:Nat} {m:Sl} {E E0:Env} {ops:Array Oper} {l:List Oper} {w0:World} {F0:Gs} {bs:List (Nat×Obj)} {G:Gs→Prop} {ty:TypeId}
theorem JK {T e:TypeId} {x y:Operand} {q:Option Addr} {n c sz sz':Nat} {g:Bool} {cs:List Value} (i:Nat) (hr:∀ F,G F→Q4 F q n sz' cs) (hx:ev m x=some (.slice q n c)) (hy:ev m y=some (.int .i64 (i:Int))) (hT:H2 P T=some e) (hs:YA P e=some (g,sz)) (hi:i<n) :
  Qt P N m (St ⟨w0,F0,bs,G⟩) (.indexAddr T x y) ty (.pointer (some ⟨zE q,zD q+i*sz,none⟩)):=fun a w _ _ _ _ ha hw=>by
 obtain ⟨F,hF⟩:=id hw
 obtain ⟨b,off,rfl⟩:=(hr F hF.hG).ptr (by omega)
 exact Qw hx hy hT hs hi a w _ _ _ _ ha hw
theorem JM {T:TypeId} {x:Operand} {q:Option Addr} {n sz k:Nat} {cs:List Value} (j:Nat) {u:Value} (hr:∀ F,G F→Q4 F q n sz cs) (hn:0<n) (hx:ev m x=some (.pointer (some ⟨zE q,zD q+j,none⟩))) (ht:YA P T=some (false,k)) (hu:cs[j]?=some u) :
  Qt P N m (St ⟨w0,F0,bs,G⟩) (.load T x) ty u:=fun a w _ _ _ _ ha hw=>by
 obtain ⟨F,hF⟩:=id hw
 obtain ⟨b,off,rfl⟩:=(hr F hF.hG).ptr hn
 exact XX hx ht hr hn hu a w _ _ _ _ ha hw
theorem Xq {T:TypeId} {x:Operand} {q:Option Addr} {n sz k:Nat} {cs vs:List Value} (j:Nat) (hr:∀ F,G F→Q4 F q n sz cs) (hn:0<n) (hx:ev m x=some (.pointer (some ⟨zE q,zD q+j,none⟩))) (ht:YA P T=some (true,k)) (hl:vs.length=k) (hu:∀ i v,vs[i]?=some v→cs[j+i]?=some v) :
  Qt P N m (St ⟨w0,F0,bs,G⟩) (.load T x) ty (.agg vs.toArray):=fun a w _ _ _ _ ha hw=>by
 obtain ⟨F,hF⟩:=id hw
 obtain ⟨b,off,rfl⟩:=(hr F hF.hG).ptr hn
 exact DL hx ht hr hn hl hu a w _ _ _ _ ha hw
theorem Y2.append {m:Sl}:∀ {k l:Sl},Y2 m k→Y2 m l→Y2 m (k++l)
 |[],_,_,h=>h
 |(_,_)::_,_,⟨h1,h2⟩,h=>⟨h1,Y2.append h2 h⟩
theorem Jw {ι:Type} {c:Code} (K:Sl) (M:ι→Sl) (B:ι→List (Nat×Obj)) (R:ι→Gs→Prop) (μ:ι→Nat) (i0:ι)
  (hk:Y2 m K) (hm:Y2 m (M i0)) (hb:(B i0).Sublist bs) (hg:∀ F,G F→R i0 F)
  (round:∀ i,J P c (Exit.then (Fb N w0 F0 (fun i=>K++M i) B (fun i F=>G F∧R i F) μ i) Q) N (K++M i) ⟨w0,F0,B i,fun F=>G F∧R i F⟩):J P (.loop c) Q N m ⟨w0,F0,bs,G⟩ :=
 Xa (fun i=>K++M i) B (fun i F=>G F∧R i F) μ i0 (hk.append hm) hb (fun F h=>⟨h,hg F h⟩) round
theorem ZT {ι:Type} {c:Code} (K:Sl) (M:ι→Sl) (μ:ι→Nat) (i0:ι) (hk:Y2 m K) (hm:Y2 m (M i0))
  (round:∀ i,J P c (Exit.then (Fb N w0 F0 (fun i=>K++M i) (fun _=>bs) (fun _=>G) μ i) Q) N (K++M i) ⟨w0,F0,bs,G⟩):J P (.loop c) Q N m ⟨w0,F0,bs,G⟩ :=
 Xa (fun i=>K++M i) (fun _=>bs) (fun _=>G) μ i0 (hk.append hm) subl_r (fun _ h=>h) round
theorem K5 {x y:Code} (K M:Sl) (hk:Y2 m K) (h1:J P x (Xs (fun a w=>Jr N (K++M) a∧St ⟨w0,F0,bs,G⟩ w)) N m ⟨w0,F0,bs,G⟩) (h2:J P y Q N (K++M) ⟨w0,F0,bs,G⟩):J P (.seq x y) Q N m ⟨w0,F0,bs,G⟩ :=
 xj _ _ _ h1 h2
theorem LO {ι:Type} {x y:Code} (K:Sl) (M:ι→Sl) (B:ι→List (Nat×Obj)) (R:ι→Gs→Prop) (hk:Y2 m K) (h1:J P x (Xs (fun a w=>∃ i,Jr N (K++M i) a∧St ⟨w0,F0,B i,fun F=>G F∧R i F⟩ w)) N m ⟨w0,F0,bs,G⟩)
  (h2:∀ i,J P y Q N (K++M i) ⟨w0,F0,B i,fun F=>G F∧R i F⟩):J P (.seq x y) Q N m ⟨w0,F0,bs,G⟩ :=
 Kj (fun i=>K++M i) B (fun i F=>G F∧R i F) h1 h2
end
end
section
open Go.RowKit Ig
theorem SV:(1:Int)<B9:=by decide
theorem Rr {b:List Int} {n:Nat} (db:DG B9 b) (zb:NZ b) (hn:b.length=n+1):1≤Qb b n∧1≤B9 / (Qb b n+1)∧B9 / (Qb b n+1)<B9∧B9 / (Qb b n+1)*(Qb b n+1)≤B9:=by
 have hd:=db.Qb JF n
 have h1:1≤Qb b n:=by
  have hlt:n<b.length:=by omega
  have:Qb b n≠0:=by
   intro e
   refine zb ?_
   rw [List.getLast?_eq_getElem?,hn,Nat.add_sub_cancel,List.getElem?_eq_getElem hlt]
   rw [X7 hlt] at e;rw [e]
  omega
 have h9:B9=1000000000:=rfl
 refine⟨h1,?_,?_,Int.ediv_mul_le _ (by omega)⟩
 ·exact(Int.le_ediv_iff_mul_le (by omega)).2 (by omega)
 ·exact Int.ediv_lt_of_lt_mul (by omega) (by rw [Int.mul_add];have:B9*1≤B9*Qb b n:=Int.mul_le_mul_of_nonneg_left h1 (by omega);omega)
theorem OT {b v:List Int} {n:Nat} {f:Int} (db:DG B9 b) (zb:NZ b) (hn:b.length=n+1) (dv':DG B9 v) (zv:NZ v) (h:dv B9 v=dv B9 b*f) (h1:1≤f) (h2:f*(Qb b n+1)≤B9):v.length=n+1:=by
 have hlt:n<b.length:=by omega
 have e1:dv B9 b=dv B9 (b.take n)+B9^n*Qb b n:=by
  have:=VN B9 b n
  rw [List.take_of_length_le (by omega)] at this;exact this
 have e2:=Z1 JF (db.take n)
 rw [show(b.take n).length=n by simp;omega] at e2
 have hb0:B9^n≤dv B9 b:=by
  have:=Bk JF db zb (by intro e;rw [e] at hn;simp at hn)
  rw [hn,Nat.add_sub_cancel] at this;exact this
 have hp:=pow_pos JF n
 have hup:dv B9 b<B9^n*(Qb b n+1):=by rw [Int.mul_add,Int.mul_one];omega
 have hv1:dv B9 v<B9^(n+1):=by
  rw [h,Int.pow_succ]
  have:dv B9 b*f<B9^n*(Qb b n+1)*f:=Int.mul_lt_mul_of_pos_right hup (by omega)
  have q:B9^n*(Qb b n+1)*f≤B9^n*B9:=by
   rw [Int.mul_assoc,Int.mul_comm (Qb b n+1)]
   exact Int.mul_le_mul_of_nonneg_left h2 (by omega)
  omega
 have hv0:B9^n≤dv B9 v:=by
  rw [h]
  have:dv B9 b*1≤dv B9 b*f:=Int.mul_le_mul_of_nonneg_left h1 (by omega)
  omega
 rcases Nat.lt_trichotomy v.length (n+1) with g | g | g
 ·have h3:=Z1 JF dv'
  have h4:=KH (b:=B9) (by decide) (show v.length≤n by omega)
  omega
 ·exact g
 ·have h3:=Bk JF dv' zv (by intro e;rw [e] at g;simp at g)
  have h4:=KH (b:=B9) (by decide) (show n+1≤v.length - 1 by omega)
  omega
theorem zW {b:Int} (hb:0<b) {U:List Int} {k:Nat} (hU:DG b U):b^k*dv b (U.drop k)≤dv b U:=by
 rw [X6 b U k]
 have:=Qu hb (hU.take k)
 omega
structure B5 (a v:List Int) (f:Int) (n:Nat) where
 k:Nat
 U:List Int
 Q:List Int
 le:k+n≤a.length+1
 lu:U.length=a.length+1
 lq:Q.length=a.length+1 - n
 du:DG B9 U
 dq:DG B9 Q
 lt:dv B9 (U.drop k)<dv B9 v
 h:dv B9 a*f=dv B9 v*(B9^k*dv B9 (Q.drop k))+dv B9 U
def B5.start {a b v U:List Int} {f:Int} {n:Nat} (da:DG B9 a) (db:DG B9 b) (zb:NZ b) (hn:b.length=n+1) (hv:dv B9 v=dv B9 b*f) (h1:1≤f) (du:DG B9 U) (lu:U.length=a.length+1) (hU:dv B9 U=dv B9 a*f) (hl:n+1≤a.length+1):B5 a v f (n+1) where
 k:=a.length+1 - (n+1)
 U:=U
 Q:=List.replicate (a.length+1 - (n+1)) 0
 le:=by omega
 lu:=lu
 lq:=by simp
 du:=du
 dq:=DG.replicate JF _
 lt:=by
  have hb0:B9^n≤dv B9 b:=by
   have:=Bk JF db zb (by intro e;rw [e] at hn;simp at hn)
   rw [hn,Nat.add_sub_cancel] at this;exact this
  have h2:=zW JF (k:=a.length - n) du
  have h3:=Z1 JF da
  have h4:dv B9 a*f<B9^a.length*f:=Int.mul_lt_mul_of_pos_right h3 (by omega)
  have h5:B9^a.length*f=B9^(a.length - n)*(B9^n*f):=by rw [← Int.mul_assoc,← Int.pow_add];congr 2;omega
  rw [hU] at h2
  have h6:B9^(a.length - n)*dv B9 (U.drop (a.length - n))<B9^(a.length - n)*(B9^n*f):=by omega
  have h7:dv B9 (U.drop (a.length - n))<B9^n*f:=Int.lt_of_mul_lt_mul_left h6 (by have:=pow_pos JF (a.length - n);omega)
  have h8:B9^n*f≤dv B9 b*f:=Int.mul_le_mul_of_nonneg_right hb0 (by omega)
  rw [show a.length+1 - (n+1)=a.length - n by omega,hv]
  omega
 h:=by
  rw [List.drop_of_length_le (by simp),T0,Int.mul_zero,Int.mul_zero,Int.zero_add,hU]
theorem B5.zero {a v:List Int} {f:Int} {n:Nat} (i:B5 a v f n) (dv':DG B9 v) (hv:v.length=n):dv B9 (i.U.drop (i.k+n))=0:=by
 have:=Z1 JF dv'
 rw [hv] at this
 exact IK SV i.du (Int.lt_trans i.lt this)
theorem B5.Li {a v:List Int} {f:Int} {m:Nat} (i:B5 a v f (m+2)) (dv':DG B9 v) (zv:0<Qb v (m+1)) (hv:v.length=m+2) (hk:0<i.k):VQ B9 ((i.U.drop (i.k - 1)).take (m+3)) v m∧dv B9 (i.U.drop (i.k - 1))=dv B9 ((i.U.drop (i.k - 1)).take (m+3)):=by
 have hz:=i.zero dv' hv
 have hle:=i.le
 have hlu:=i.lu
 have e:dv B9 (i.U.drop (i.k - 1))=dv B9 ((i.U.drop (i.k - 1)).take (m+3)):=by
  have:=X6 B9 (i.U.drop (i.k - 1)) (m+3)
  rw [List.drop_drop,show i.k - 1+(m+3)=i.k+(m+2) by omega,hz] at this
  simpa using this
 refine⟨⟨(i.du.drop _).take _,dv',by simp;omega,hv,zv,?_⟩,e⟩
 rw [← e,J8 (by omega),YO,show i.k - 1+1=i.k by omega]
 have hd:=i.du.Qb JF (i.k - 1)
 have hlt:=i.lt
 have:B9*dv B9 (i.U.drop i.k)≤B9*(dv B9 v - 1):=Int.mul_le_mul_of_nonneg_left (by omega) (by decide)
 rw [Int.mul_sub,Int.mul_one] at this
 omega
def B5.next {a v:List Int} {f:Int} {n:Nat} (i:B5 a v f n) (hk:0<i.k) (hn:0<n) {U1:List Int} {t:Int} (t0:0≤t) (t1:t<B9) (h1:DG B9 U1) (h2:dv B9 (U1.drop (i.k - 1))<dv B9 v) (h3:dv B9 U1=dv B9 i.U - B9^(i.k - 1)*(t*dv B9 v)) (h4:U1.length=i.U.length):B5 a v f n where
 k:=i.k - 1
 U:=U1
 Q:=i.Q.set (i.k - 1) t
 le:=by have:=i.le;omega
 lu:=by rw [h4,i.lu]
 lq:=by rw [List.length_set,i.lq]
 du:=h1
 dq:=i.dq.set _ t0 t1
 lt:=h2
 h:=by
  have hle:=i.le
  have hlq:=i.lq
  rw [h3,J8 (l:=i.Q.set (i.k - 1) t) (by rw [List.length_set];omega),YO,Ve (by omega),if_pos rfl,List.drop_set_of_lt (by omega),show i.k - 1+1=i.k by omega,i.h]
  have e:B9^i.k=B9^(i.k - 1)*B9:=by rw [← Int.pow_succ];congr 1;omega
  rw [e]
  generalize B9^(i.k - 1)=p
  generalize dv B9 (i.Q.drop i.k)=q
  generalize dv B9 i.U=u
  generalize dv B9 v=y
  generalize B9=B
  grind
theorem B5.stop {a b v:List Int} {f:Int} {n:Nat} (i:B5 a v f n) (hk:i.k=0) (db:DG B9 b) (da:DG B9 a) (hv:dv B9 v=dv B9 b*f) (h1:1≤f) (hb:0<dv B9 b) (dv':DG B9 v) (lv:v.length=n) :
  dv B9 i.Q=dv B9 a / dv B9 b∧dv B9 (i.U.take n)=f*(dv B9 a%dv B9 b):=by
 have h:=i.h
 have lt:=i.lt
 rw [hk,List.drop_zero] at lt
 have hz:=i.zero dv' lv
 rw [hk,Nat.zero_add] at hz
 have e0:dv B9 (i.U.take n)=dv B9 i.U:=by
  rw [X6 B9 i.U n,hz];simp
 rw [hk,List.drop_zero,Int.pow_zero,Int.one_mul,hv] at h
 rw [hv] at lt
 have u0:=Qu JF i.du
 rw [e0]
 have e1:dv B9 i.U=f*(dv B9 a - dv B9 b*dv B9 i.Q):=by rw [Int.mul_sub];grind
 have lt2:f*(dv B9 a - dv B9 b*dv B9 i.Q)<f*dv B9 b:=by rw [← e1,Int.mul_comm f (dv B9 b)];exact lt
 have r1:dv B9 a - dv B9 b*dv B9 i.Q<dv B9 b:=Int.lt_of_mul_lt_mul_left lt2 (by omega)
 have r0:0≤dv B9 a - dv B9 b*dv B9 i.Q:=by
  rcases Int.lt_or_le (dv B9 a - dv B9 b*dv B9 i.Q) 0 with g | g
  ·have:f*(dv B9 a - dv B9 b*dv B9 i.Q)≤f*(-1):=Int.mul_le_mul_of_nonneg_left (by omega) (by omega)
   omega
  ·exact g
 have q:dv B9 a / dv B9 b=dv B9 i.Q:=Xw hb (by rw [Int.mul_comm];omega) (by rw [Int.add_mul,Int.one_mul,Int.mul_comm];omega)
 refine⟨q.symm,?_⟩
 rw [e1]
 have:=Int.emod_def (dv B9 a) (dv B9 b)
 rw [this,q]
end
section
open Go.RowKit Ig
section
variable [Dr] [df:Df] {P:Program} {Q:Exit→Act→World→Prop} {N:Nat} {m:Sl} {ops:Array Oper} {l:List Oper} {w0:World} {F0:Gs} {bs:List (Nat×Obj)} {G:Gs→Prop} {ty:TypeId} {pos:String} {aft:Array Edge}
theorem GO {d:Nat} {t e:TypeId} {sz:Nat} {g:Bool} (ht:P.underlying t=some (.slice e)) (hs:YA P e=some (g,sz)) (k:∀ b,JS P ops Q l N ((d,.slice (some ⟨b,0,none⟩) 0 0)::m) ⟨w0,F0,(b,.cells #[] e (0,0))::bs,G⟩) (hu:WJ e=true:=by rfl) (hd:J4 N (some d)=true:=by rfl) :
  JS P ops Q (⟨some d,.buildSlice t 0 #[],ty,pos,aft,none⟩::l) N m ⟨w0,F0,bs,G⟩:=fun a w ha hw=>wpList_plain rfl fun K hK=>by
 refine upon_value (v:=.slice (some ⟨w.heap.size,0,none⟩) 0 0) (w':=w.alloc (.cells #[] e)) ?_ (hK _ _ (k _ _ _ (ha.put hd _) (hw.alloc _ (Xj hu))))
 have hrun:(Instr.buildSlice t 0 #[]).run P w = .ok (.slice (some ⟨w.heap.size,0,none⟩) 0 0) (w.alloc (.cells #[] e)):=by
  have hf:Instr.fill (fun i=>some (i*sz,sz)) (Array.map (fun x=>(#[]:Array Value)[x%(#[]:Array Value).size]!) (Array.range 0)) []=some #[]:=by simp [Instr.fill]
  simp only [Instr.buildSlice,Sem.run_bind,run_underlying ht,Result.andThen_ok,Zo hs,Nat.zero_mul,if_neg (show ¬ 0>2^24 by omega),Sem.run_pure,if_true,hf,newRow,run_newObj]
  rfl
 simp [execOp,hrun]
theorem TA {T e e':TypeId} {sz n:Nat} {x:Operand} {v:Value} {cs:List Value} {ob:List (Nat×Obj)} {S:World→Prop} (hx:ev m x=some v) (hr:Qz e' sz v n cs ob) (hT:H2 P T=some e):Qt P N m S (.call ⟨.builtin .len,#[x],#[T]⟩) ty (.int .i64 n):=by
 cases hr with
 |nil=>exact Qi hx hT
 |some=>exact Qi hx hT
theorem Qz.c5 {T:TypeId} {sz n:Nat} {v:Value} {cs:List Value} {ob:List (Nat×Obj)} (hr:Qz T sz v n cs ob) (hn:0<n):∃ b cap rest,v = .slice (Option.some ⟨b,0,Option.none⟩) n cap∧ob=[(b,.cells (cs++rest).toArray T (0,0))]∧n≤cap:=by
 cases hr with
 |nil=>exact absurd hn (Nat.lt_irrefl 0)
 |some h1 h2 h3 h4=>exact⟨_,_,_,rfl,rfl,h3⟩
theorem Src.uG {sz k b off c:Nat} {news:List Value} (hr:∀ F,G F→Q4 F (some ⟨b,off,none⟩) k sz news) (hk:0<k) (hl:news.length=k*sz):Src ⟨w0,F0,bs,G⟩ sz (.slice (.some ⟨b,off,none⟩) k c) k news :=
 ⟨hl,.inr ⟨_,_,rfl,fun w hw j v hv=>by rw [Ke];exact Ky hw hr hk hv⟩⟩
end
theorem JL.own {F:Gs} {b n c:Nat} {l:List Int} {rest:List Value} {T:TypeId} (h:F b=some ((l.map Qx++rest).toArray,T)) (hl:l.length=n) (hn:n≤c):JL F ⟨some ⟨b,0,none⟩,n,c⟩ l:=by
 refine⟨⟨by simp [hl],fun _=>⟨b,0,_,T,rfl,h,fun j u hu=>?_⟩⟩,hl,hn⟩
 have hj:j<(l.map Qx).length:=by rcases Nat.lt_or_ge j (l.map Qx).length with g | g;exact g;rw [List.getElem?_eq_none g] at hu;cases hu
 rw [Nat.zero_add,List.getElem?_toArray,List.getElem?_append,if_pos hj];exact hu
theorem JL.uQ {F:Gs} {b n c:Nat} {l:List Int} {T:TypeId} (h:F b=some ((l.map Qx).toArray,T)) (hl:l.length=n) (hn:n≤c):JL F ⟨some ⟨b,0,none⟩,n,c⟩ l:=JL.own (rest:=[]) (by rw [List.append_nil];exact h) hl hn
theorem JL.one {F:Gs} {b:Nat} {x:Int} {T:TypeId} (h:F b=some (([Value.int .i64 x]:List Value).toArray,T)):JL F ⟨some ⟨b,0,none⟩,1,1⟩ [x]:=⟨Q4.of h rfl,rfl,Nat.le_refl _⟩
theorem JL.take {F:Gs} {q:Option Addr} {n c k:Nat} {l:List Int} (h:JL F ⟨q,n,c⟩ l) (hk:k≤n):JL F ⟨q,k,c⟩ (l.take k):=by
 have hn:=h.2.1
 have hc:=h.2.2
 dsimp only at hn hc
 exact⟨h.1.take hn hk,by simp;omega,by show k≤c;omega⟩
theorem GB {l m:List Int} (hl:DG B9 l) (hm:DG B9 m) (zl:NZ l) (h:dv B9 l≤dv B9 m):l.length≤m.length:=by
 rcases Nat.lt_or_ge m.length l.length with g | g
 ·have:=XZ SV hm hl zl g;omega
 ·exact g
theorem SC (x:Int):dv B9 [x]=x:=by simp [dv]
theorem Lw {f x r t:Int} (hf:0<f) (h:f*x=f*r+t) (h0:0≤t) (h1:t<f):r=x:=by
 have e:t=f*(x - r):=by rw [Int.mul_sub];omega
 rcases Int.lt_trichotomy (x - r) 0 with g | g | g
 ·have:f*(x - r)≤f*(-1):=Int.mul_le_mul_of_nonneg_left (by omega) (by omega)
  omega
 ·omega
 ·have:f*1≤f*(x - r):=Int.mul_le_mul_of_nonneg_left (by omega) (by omega)
  omega
def xo (a b:List Int) (c:(Sr×List Int)×(Sr×List Int)) (F:Gs):Prop :=
 (JL F c.1.1 c.1.2∧DG B9 c.1.2∧NZ c.1.2∧dv B9 c.1.2=dv B9 a / dv B9 b)∧(JL F c.2.1 c.2.2∧DG B9 c.2.2∧NZ c.2.2∧dv B9 c.2.2=dv B9 a%dv B9 b)
theorem qO {F:Gs} {a b:List Int} (nb:b.length=1) (db:DG B9 b) (c:(Sr×List Int)×Int) {k:Nat}
  (h:JL F c.1.1 c.1.2∧DG B9 c.1.2∧NZ c.1.2∧0≤c.2∧c.2<Qb b 0∧dv B9 a=Qb b 0*dv B9 c.1.2+c.2∧c.1.2.length≤a.length) (h':JL F ⟨some ⟨k,0,none⟩,(Q2 [c.2]).length,1⟩ (Q2 [c.2])) :
  xo a b ((c.1.1,c.1.2),(⟨some ⟨k,0,none⟩,(Q2 [c.2]).length,1⟩,Q2 [c.2])) F:=by
 obtain ⟨h1,h2,h3,h4,h5,h6,_⟩:=h
 have e:dv B9 b=Qb b 0:=by
  obtain ⟨x,rfl⟩:=List.length_eq_one_iff.1 nb
  simp [dv,Qb]
 have b0:=db.Qb JF 0
 refine⟨⟨h1,h2,h3,?_⟩,h',(DG.cons h4 (by omega) (DG.nil _)).Q2,Xh _,?_⟩
 ·show dv B9 c.1.2=_
  rw [e];exact(Xw (by omega) (by rw [Int.mul_comm];omega) (by rw [Int.add_mul,Int.one_mul,Int.mul_comm];omega)).symm
 ·show dv B9 (Q2 [c.2])=_
  rw [XB,SC,e,Zg (q:=dv B9 c.1.2) (by rw [Int.mul_comm];omega) (by rw [Int.add_mul,Int.one_mul,Int.mul_comm];omega),Int.mul_comm];omega
structure uw (a:List Int) (f:Int) where
 U:List Int
 v:Value
 ob:List (Nat×Obj)
 le:U.length≤a.length+1
 du:DG B9 U
 h:dv B9 U=dv B9 a*f
 hr:Qz 3 1 v U.length (U.map Qx) ob
structure ur (U v:List Int) (j:Nat) (t:Int) where
 i:Nat
 U':List Int
 br:Int
 le:i≤v.length
 h:PH B9 U v j t i U' br
structure cD (U v:List Int) (j n:Nat) where
 i:Nat
 U':List Int
 c:Int
 le:i≤n
 h:B8 B9 U v j n i U' c
@[reducible] def p9 (c:(Sr×List Int)×(Sr×List Int)):Value:=.tuple #[.slice c.1.1.q c.1.1.n c.1.1.cap,.slice c.2.1.q c.2.1.n c.2.1.cap]
set_option maxHeartbeats 4000000 in
theorem GX {w:World} {F:Gs} {ra rb:Sr} {a b:List Int} (hF:Fits F w) (hA:JL F ra a) (hB:JL F rb b) (da:DG B9 a) (db:DG B9 b) (za:NZ a) (zb:NZ b) (hb:0<dv B9 b) (la:a.length≤10000000) (lb:b.length≤10000000) :
  QT Tryz.prog 201 [ra.v,rb.v] w F p9 (fun c F=>xo a b c F):=by
 obtain ⟨q,n,c⟩:=ra
 obtain ⟨q',n',c'⟩:=rb
 have na:=hA.2.1
 have nb:=hB.2.1
 dsimp only at na nb
 have h9:B9=1000000000:=rfl
 have nb0:0<n':=by
  rcases Nat.eq_zero_or_pos n' with g | g
  ·rw [g] at nb;rw [List.eq_nil_of_length_eq_zero nb] at hb;simp at hb
  ·exact g
 dsimp only [Sr.v]
 refine QT.intro (G:=fun F=>JL F ⟨q,n,c⟩ a∧JL F ⟨q',n',c'⟩ b) Tryz.func201 rfl (by rfl) rfl rfl hF (fun F' hF'=>⟨hA.le hF',hB.le hF'⟩)<|J_sr<|JS_as rfl<|JS_as rfl<|JS_nt<|QG<|J_sr<|JS_mv rfl<|JS_mv rfl<|QH rfl (fun w F hF h9=>GY hF (ra:=⟨q,n,c⟩) (rb:=⟨q',n',c'⟩) h9.1 (h9.2) (da) (db) (za) (zb) (by omega) (by omega)) (fun _=>QA (QU rfl rfl rfl)<|QE<|QC ?_)
 refine QP rfl (fun hc=>?_) (fun hc=>?_)
 ·
  have hlt:dv B9 a<dv B9 b:=by have:=dec_t hc;unfold ZU at this;split at this;assumption;split at this<;>omega
  refine J_sr<|JS_mv rfl<|JS_as rfl<|JS_as rfl<|JS_nt<|QS ?_
  exact JX (((⟨none,0,0⟩,[]),(⟨q,n,c⟩,a)):(Sr×List Int)×(Sr×List Int)) rfl (.tmp rfl (.tmp rfl .nil)) (rfl) (fun F h9=>⟨⟨⟨Q4.nil F _ _,rfl,Nat.le_refl _⟩,DG.nil _,by simp [NZ],by rw [T0];exact(Int.ediv_eq_zero_of_lt (Qu JF da) hlt).symm⟩,h9.1.1,da,za,(Int.emod_eq_of_lt (Qu JF da) hlt).symm⟩)
 ·
  have hge:dv B9 b≤dv B9 a:=by have:=dec_f hc;unfold ZU at this;split at this;exact absurd this (by decide);omega
  refine QO<|QC<|QG<|J_sr<|JS_mv rfl<|QA (Qi rfl Qd)<|QA (QU rfl rfl rfl)<|QE<|QC ?_
  refine QP rfl (fun hc=>?_) (fun hc=>?_)
  ·
   have hn1:n'=1:=by have:=dec_t hc;omega
   subst hn1
   obtain ⟨f1,_⟩:=Rr (n:=0) db zb nb
   have bx:=db.Qb JF 0
   have d0:=bx.2
   refine J_sr<|JS_mv rfl<|JS_mv rfl<|QA (JK (n:=1) (0) (fun F h9=>(h9.1.2).1) rfl (congrArg (fun z:Int=>some (Value.int .i64 z)) (by omega)) Qd Qs (by omega))<|QA (JM (n:=1) ((0)*1) (fun F h9=>(h9.1.2).1) (by omega) rfl Qs (JJ (o:=b) (by omega)))<|QH rfl (fun w F hF h9=>D3 hF (ra:=⟨q,n,c⟩) h9.1.1 (da) (by omega) (by omega) (d0)) (fun c37=>JS_mv rfl<|QA (QK rfl rfl)<|QA (QK rfl rfl)<|JS_as rfl<|JS_as rfl<|JS_nt<|QG<|X3 _ (fun w F hF h9=>h9.2.2) (fun p37=>QB<|JS_mv rfl<|JS_mv rfl<|QW rfl (Q7 Qd) Qs Vj rfl rfl (fun b42=>QH rfl (fun w F hF h9=>Wn hF (r:=⟨some ⟨b42,0,none⟩,1,1⟩) (JL.one h9.2) (by simp)) (fun c43=>JS_as rfl<|JS_as rfl<|QE<|QC ?_))))
   refine QS ?_
   exact JX (((c37.1.1,c37.1.2),(⟨some ⟨b42,0,none⟩,(Q2 [c37.2]).length,1⟩,Q2 [c37.2])):(Sr×List Int)×(Sr×List Int)) rfl (.tmp rfl (.tmp rfl .nil)) (rfl) (fun F h9=>qO nb db c37 h9.1.1.2 h9.2)
  ·
   have hn2:n'≠1:=fun e=>dec_f hc (by omega)
   obtain ⟨m,rfl⟩:∃ m,n'=m+2:=⟨n' - 2,by omega⟩
   obtain ⟨f1,f2,f3,f4⟩:=Rr (n:=m+1) db zb nb
   have bx:=db.Qb JF (m+1)
   rw [h9] at bx f2 f3 f4
   have d1f:DG B9 [1000000000 / (Qb b (m+1)+1)]:=DG.cons (by omega) f3 (DG.nil _)
   refine QO<|QC<|J_sr<|JS_mv rfl<|JS_mv rfl<|QA (Qi rfl Qd)<|QA (J7 rfl rfl (by omega))<|QA (JK (n:=(m+2)) (m+1) (fun F h9=>(h9.1.2).1) rfl (congrArg (fun z:Int=>some (Value.int .i64 z)) (by omega)) Qd Qs (by omega))<|QA (JM (n:=(m+2)) ((m+1)*1) (fun F h9=>(h9.1.2).1) (by omega) rfl Qs (JJ (o:=b) (by omega)))<|QA (Qp rfl rfl (by omega))<|QA (Wh rfl rfl (by omega) (by omega) (by omega))<|QW rfl (Q7 Qd) Qs Vj rfl rfl (fun b52=>JS_as rfl<|JS_nt<|J_sr<|JS_mv rfl<|JS_mv rfl ?_)
   refine QH rfl (fun w F hF h9=>GW hF (ra:=⟨q',m+2,c'⟩) (rb:=⟨some ⟨b52,0,none⟩,1,1⟩) h9.1.1.2 (JL.one h9.2) (db) (d1f) (by omega) (by first | omega | (simp;done) | (simp;omega))) (fun c55=>?_);rcases c55 with ⟨v55,l55⟩;dsimp only
   refine JH _ (fun w F hF ⟨⟨⟨⟨hA,hB⟩,_⟩,hs52⟩,⟨h55,h55p⟩⟩=>And.intro h55.2 h55p) (fun p55=>JS_as rfl<|JS_nt<|QG ?_)
   obtain ⟨⟨n55,c55⟩,d55,e55,z55,m55⟩:=p55
   rw [SC] at e55
   have l55l:l55.length=m+2:=OT db zb nb d55 z55 e55 f2 f4
   obtain ⟨qv,nv,cv⟩:=v55
   dsimp only at n55 c55 ⊢
   obtain rfl:nv=m+2:=by omega
   have zv:0<Qb l55 (m+1):=by have:=(Rr (n:=m+1) d55 z55 l55l).1;omega
   have hlab:b.length≤a.length:=GB db da zb hge
   refine QB<|JS_mv rfl<|QA (Qi rfl Qd)<|JS_as rfl<|JS_nt<|J_sr<|GO (Q7 Qd) Qs (fun b58=>JS_mv rfl<|JS_mv rfl ?_)
   refine QH rfl (fun w F hF h9=>GW hF (ra:=⟨q,n,c⟩) (rb:=⟨some ⟨b52,0,none⟩,1,1⟩) h9.1.1.1.1 (JL.one h9.1.2) (da) (d1f) (by omega) (by first | omega | (simp;done) | (simp;omega))) (fun c61=>?_);rcases c61 with ⟨v61,l61⟩;dsimp only
   refine JH _ (fun w F hF ⟨⟨⟨⟨⟨hA,hB⟩,_⟩,hs52⟩,⟨h55,h55p⟩⟩,⟨h61,h61p⟩⟩=>And.intro h61.2 h61p) (fun p61=>?_)
   obtain ⟨⟨n61,c61⟩,d61,e61,z61,m61⟩:=p61
   rw [SC] at e61
   have hpos:0<l61.length:=by
    rcases Nat.eq_zero_or_pos l61.length with g | g
    ·rw [List.eq_nil_of_length_eq_zero g,T0] at e61
     have:0<dv B9 a*(1000000000 / (Qb b (m+1)+1)):=Int.mul_pos (by omega) (by omega)
     omega
    ·exact g
   obtain ⟨qa,na',ca⟩:=v61
   dsimp only at n61 c61 ⊢
   refine JH _ (fun w F hF h=>h.2.1.1.ptr (by dsimp only;omega)) (fun hq=>?_)
   obtain ⟨qab,qao,hq⟩:=hq
   dsimp only at hq
   subst hq
   simp only [List.length_singleton] at m61
   refine VT (bs1:=[]) (ob:=[(b58,.cells #[] 3 (0,0))]) (n:=0) (k:=na') (sz:=1) (olds:=[]) (news:=l61.map Qx) rfl rfl Qd Qs Vj rfl Db (Qz.some (l:=[]) (rest:=[]) rfl rfl (Nat.le_refl _) (Nat.zero_le _)) (Src.uG (fun F h=>h.2.1.1) (by omega) (by simp;omega)) (by omega) (by omega) (fun v hv=>by obtain ⟨x,_,rfl⟩:=List.mem_map.1 hv;rfl) (fun v62 ob62 hr62=>JS_as rfl<|JS_nt<|QG<|QX<|Jw (ι:=uw a (1000000000 / (Qb b (m+1)+1))) [(0,_),(8,_),(9,_),(10,_)] (fun i=>[(11,i.v)]) (fun i=>i.ob) (fun i F=>True) (fun i=>a.length+1 - i.U.length) (⟨l61,v62,ob62,by omega,d61,e61,by rw [n61];simpa using hr62⟩) ⟨rfl,rfl,rfl,rfl,trivial⟩ ⟨rfl,trivial⟩ subl_r (fun _ _=>trivial) (fun i=>?_))
   simp only [List.cons_append,List.nil_append]
   have hle:=i.le
   refine QG<|J_sr<|JS_mv rfl<|QA (TA rfl i.hr Qd)<|JS_mv rfl<|QA (Qi rfl Qd)<|QA (Qp rfl rfl (by omega))<|QA (QU rfl rfl rfl)<|QE<|QC ?_
   refine QP rfl (fun hc=>?_) (fun hc=>?_)
   ·
    refine QO<|QC<|QX<|QB<|JS_mv rfl<|QW rfl (Q7 Qd) Qs Vj rfl rfl (fun b70=>?_)
    refine VT (bs1:=[]) (ob:=i.ob) (k:=1) (sz:=1) (news:=[.int .i64 0]) rfl rfl Qd Qs Vj rfl Db i.hr (Src.row (off:=0) (fun F h9=>h9.2) (fun j v hv=>by rw [Nat.zero_add];show([.int .i64 0].toArray)[j]?=some v;rw [List.getElem?_toArray];exact hv) rfl) (by omega) (by omega) (Zq ⟨rfl,trivial⟩) (fun v71 ob71 hr71=>?_)
    refine JS_as rfl<|QE<|Qk ?_
    exact Ql (⟨i.U++[0],v71,ob71,by have:=dec_t hc;simp;omega,i.du.append (DG.cons (by decide) (by decide) (DG.nil _)),by rw [XS,i.h];simp,by simpa [Qx] using hr71⟩) (by have:=dec_t hc;show a.length+1 - (i.U++[0]).length<a.length+1 - i.U.length;rw [List.length_append,List.length_singleton];omega) ⟨rfl,rfl,rfl,rfl,rfl,trivial⟩ subl_r (fun F h=>⟨h.1.1,trivial⟩)
   ·
    refine Qy ?_
    repeat (first | refine QZ ?_ | refine QV (by rfl) ?_)
    refine Qa<|QC<|QG ?_
    have hle0:=i.le
    have hU:i.U.length=a.length+1:=by have:=dec_f hc;omega
    obtain ⟨U0,vU,obU,hle0,du0,hU0,hr0⟩:=i
    dsimp only at hU hle0 hU0 ⊢
    rw [hU] at hr0
    obtain ⟨bu,cu,rest,rfl,rfl,hcu⟩:=hr0.c5 (by omega)
    refine QB<|JS_mv rfl<|QA (Qi rfl Qd)<|JS_mv rfl<|QA (J7 rfl rfl (by omega))<|Nz (n:=a.length+1 - (m+2)) (bytes:=8) (congrArg (fun z:Int=>some (Value.int .i64 z)) (by omega)) (congrArg (fun z:Int=>some (Value.int .i64 z)) (by omega)) Qd Qs Vj rfl Db (by omega) (by omega) (fun bq=>?_)
    rw [show X2 [Value.int .i64 0] (a.length+1 - (m+2))=(List.replicate (a.length+1 - (m+2)) (0:Int)).map Qx by rw [VD];simp [Qx]]
    refine X9 (List.Perm.swap _ _ _)<|JS_as rfl<|JS_nt<|QG<|J_sr<|JS_mv rfl<|QA (Qi rfl Qd)<|JS_mv rfl<|QA (J7 rfl rfl (by omega))<|QA (J7 rfl rfl (by omega))<|JS_as rfl<|JS_nt<|QX<|Jw (ι:=B5 a l55 (1000000000 / (Qb b (m+1)+1)) (m+2)) [(8,_),(9,_),(10,_),(11,_),(12,_)] (fun i2=>[(13,.int .i64 ((i2.k:Int) - 1))]) (fun i2=>[(bu,.cells (i2.U.map Qx++rest).toArray 3 (0,0)),(bq,.cells (i2.Q.map Qx).toArray 3 (0,0))]) (fun i2 F=>True) (fun i2=>i2.k) (B5.start da db zb nb e55 f2 du0 hU hU0 (by omega)) ⟨rfl,rfl,rfl,rfl,rfl,trivial⟩ ⟨(congrArg (fun z:Int=>some (Value.int .i64 z)) (by simp only [B5.start];omega)),trivial⟩ subl_r (fun _ _=>trivial) (fun i2=>?_)
    simp only [List.cons_append,List.nil_append]
    have hle2:=i2.le
    have lu2:=i2.lu
    have lq2:=i2.lq
    refine QG<|J_sr<|JS_mv rfl<|QA (QU rfl rfl rfl)<|QE<|QC ?_
    refine QP rfl (fun hc=>?_) (fun hc=>?_)
    ·
     have hk0:0<i2.k:=by have:=dec_t hc;omega
     rw [show((i2.k:Int) - 1)=((i2.k - 1:Nat):Int) by omega]
     obtain ⟨hst,hwe⟩:=i2.Li d55 zv l55l hk0
     have hz0:=i2.zero d55 l55l
     refine QO<|QC<|QG<|QX<|J_sr<|JS_mv rfl<|JS_mv rfl<|JS_mv rfl<|XL (bs1:=_) rfl (List.Perm.refl _) (Lv (rest:=rest) (U:=i2.U) (v:=l55) (j:=(i2.k - 1)) (m:=m) (rv:=⟨qv,m+2,cv⟩) lu2 (by omega) (by omega) (fun F h9=>h9.1.1.1.2.1) hst) (fun t89=>JH _ (fun w F hF h=>h.2) (fun g89=>?_))
     obtain ⟨t0,t1,t2,t3⟩:=g89
     rw [← hwe] at t2 t3
     refine JS_as rfl<|JS_nt<|J_sr<|JS_as rfl<|JS_nt<|QG<|J_sr<|JS_as rfl<|JS_nt<|QX<|Jw (ι:=ur i2.U l55 (i2.k - 1) t89) [(8,_),(9,_),(10,_),(11,_),(12,_),(13,_),(14,_)] (fun i3=>[(15,.int .i64 (i3.br)),(16,.int .i64 ((i3.i:Nat):Int))]) (fun i3=>[(bu,.cells (i3.U'.map Qx++rest).toArray 3 (0,0)),(bq,.cells (i2.Q.map Qx).toArray 3 (0,0))]) (fun i3 F=>True) (fun i3=>l55.length - i3.i) (⟨0,i2.U,0,Nat.zero_le _,PH.start (by decide) i2.du _ _⟩) ⟨rfl,rfl,rfl,rfl,rfl,rfl,rfl,trivial⟩ ⟨rfl,rfl,trivial⟩ subl_r (fun _ _=>trivial) (fun i3=>?_)
     simp only [List.cons_append,List.nil_append]
     have hle3:=i3.le
     have lU3:=i3.h.len
     have ug:=i3.h.ug
     have pT:=i3.h.pT
     rw [h9] at pT
     refine QG<|J_sr<|JS_mv rfl<|JS_mv rfl<|QA (QU rfl rfl rfl)<|QE<|QC ?_
     refine QP rfl (fun hc=>?_) (fun hc=>?_)
     ·
      have hi3:i3.i<m+2:=by have:=dec_t hc;omega
      have bd:=Cz SV ⟨t0,t1⟩ (d55.Qb JF i3.i) ⟨i3.h.ug,i3.h.pT⟩
      simp only [h9] at bd
      have bu3:=i3.h.dg.Qb JF ((i2.k - 1)+i3.i)
      rw [h9] at bu3
      have hd3:Qb i3.U' ((i2.k - 1)+i3.i)=Qb i2.U ((i2.k - 1)+i3.i):=ZY i3.h.hi (Nat.le_refl _)
      refine QO<|QC<|QG<|QX<|J_sr<|JS_mv rfl<|JS_mv rfl<|JS_mv rfl<|QA (JK (n:=(m+2)) (i3.i) (fun F h9=>(h9.1.1.1.1.1.2.1).1) rfl rfl Qd Qs (by omega))<|QA (JM (n:=(m+2)) ((i3.i)*1) (fun F h9=>(h9.1.1.1.1.1.2.1).1) (by omega) rfl Qs (JJ (o:=l55) (by omega)))<|QA (Wo rfl rfl (by omega))<|JS_mv rfl<|QA (Qp rfl rfl (by omega))<|JS_as rfl<|JS_nt<|J_sr<|JS_mv rfl<|JS_mv rfl<|JS_mv rfl<|QA (Qp rfl rfl (by omega))<|QA (Qw (i:=(i2.k - 1)+i3.i) rfl (congrArg (fun z:Int=>some (Value.int .i64 z)) (by omega)) Qd Qs (by omega))<|QA (YN (c:=(i3.U').map Qx++rest) (T':=3) rfl Qs .here (Zh (by first | omega | (simp only [List.length_set];omega)))) ?_
      refine JS_mv rfl<|QA (VH rfl rfl (by omega) (by omega))<|QA (J7 rfl rfl (by omega))<|JS_as rfl<|JS_nt<|J_sr<|JS_mv rfl<|QA (Wh rfl rfl (by omega) (by omega) (by omega))<|JS_as rfl<|JS_nt<|QG<|J_sr<|JS_mv rfl<|QA (QU rfl rfl rfl)<|QE<|QC ?_
      refine QP rfl (fun hc=>?_) (fun hc=>?_)
      ·
       have hx:=dec_t hc
       refine J_sr<|JS_mv rfl<|QA (Qp rfl rfl (by omega))<|JS_as rfl<|JS_nt<|QB<|JS_mv rfl<|QA (Qp rfl rfl (by omega))<|JS_as rfl<|JS_nt<|QB<|JS_mv rfl<|JS_mv rfl<|JS_mv rfl<|QA (Qp rfl rfl (by omega))<|JS_mv rfl<|QA (Qw (i:=(i2.k - 1)+i3.i) rfl (congrArg (fun z:Int=>some (Value.int .i64 z)) (by omega)) Qd Qs (by omega))<|QQ (vs:=[_]) rfl rfl rfl Qs rfl .here (VK (by first | omega | (simp only [List.length_set];omega)) (((Qb (i3.U') ((i2.k - 1)+i3.i) - (((t89*Qb l55 (i3.i))+i3.br)%1000000000))+1000000000))) ⟨rfl,trivial⟩<|QE<|Qk<|QC<|QB ?_
       refine JS_mv rfl<|QA (Qp rfl rfl (by omega))<|JS_as rfl<|QE ?_
       exact Ql (⟨i3.i+1,((i3.U').set ((i2.k - 1)+i3.i) (((Qb (i3.U') ((i2.k - 1)+i3.i) - (((t89*Qb l55 (i3.i))+i3.br)%1000000000))+1000000000))),((((t89*Qb l55 (i3.i))+i3.br) / 1000000000)+1),by omega,i3.h.step (by omega) (by rw [h9];omega) (by rw [h9];omega) (by rw [h9,← hd3];omega)⟩) (by show l55.length - (i3.i+1)<l55.length - i3.i;omega) ⟨rfl,rfl,rfl,rfl,rfl,rfl,rfl,rfl,rfl,trivial⟩ subl_r (fun F h=>⟨h.1,trivial⟩)
      ·
       have hx:=dec_f hc
       refine QO<|QC<|QB<|JS_mv rfl<|JS_mv rfl<|JS_mv rfl<|QA (Qp rfl rfl (by omega))<|JS_mv rfl<|QA (Qw (i:=(i2.k - 1)+i3.i) rfl (congrArg (fun z:Int=>some (Value.int .i64 z)) (by omega)) Qd Qs (by omega))<|QQ (vs:=[_]) rfl rfl rfl Qs rfl .here (VK (by first | omega | (simp only [List.length_set];omega)) ((Qb (i3.U') ((i2.k - 1)+i3.i) - (((t89*Qb l55 (i3.i))+i3.br)%1000000000)))) ⟨rfl,trivial⟩<|QE<|Qk<|QC<|QB<|JS_mv rfl<|QA (Qp rfl rfl (by omega))<|JS_as rfl<|QE ?_
       exact Ql (⟨i3.i+1,((i3.U').set ((i2.k - 1)+i3.i) ((Qb (i3.U') ((i2.k - 1)+i3.i) - (((t89*Qb l55 (i3.i))+i3.br)%1000000000)))),(((t89*Qb l55 (i3.i))+i3.br) / 1000000000),by omega,i3.h.step (by omega) (by rw [h9];omega) (by rw [h9];omega) (by rw [h9,← hd3];omega)⟩) (by show l55.length - (i3.i+1)<l55.length - i3.i;omega) ⟨rfl,rfl,rfl,rfl,rfl,rfl,rfl,rfl,rfl,trivial⟩ subl_r (fun F h=>⟨h.1,trivial⟩)
     ·
      have hi3:i3.i=m+2:=by have:=dec_f hc;omega
      refine Qy ?_
      repeat (first | refine QZ ?_ | refine QV (by rfl) ?_)
      refine Qa<|QC<|QG ?_
      have hs3:PH B9 i2.U l55 (i2.k - 1) t89 (m+2) i3.U' i3.br:=by have:=i3.h;rw [hi3] at this;exact this
      have hd3:Qb i3.U' ((i2.k - 1)+(m+2))=Qb i2.U ((i2.k - 1)+(m+2)):=ZY hs3.hi (Nat.le_refl _)
      have hS:=hs3.stop SV l55l (by omega)
      rw [← hd3] at hS
      have bu4:=i2.du.Qb JF ((i2.k - 1)+(m+2))
      rw [h9,← hd3] at bu4
      have htp:=hS.tp
      have hz1:dv B9 (i2.U.drop ((i2.k - 1)+(m+2)+1))=0:=by rw [show(i2.k - 1)+(m+2)+1=i2.k+(m+2) by omega];exact hz0
      refine QB<|JS_mv rfl<|JS_mv rfl<|JS_mv rfl<|QA (Qp rfl rfl (by omega))<|JS_mv rfl<|JS_mv rfl<|JS_mv rfl<|QA (Qp rfl rfl (by omega))<|QA (Qw (i:=(i2.k - 1)+(m+2)) rfl (congrArg (fun z:Int=>some (Value.int .i64 z)) (by omega)) Qd Qs (by omega))<|QA (YN (c:=(i3.U').map Qx++rest) (T':=3) rfl Qs .here (Zh (by first | omega | (simp only [List.length_set];omega))))<|JS_mv rfl<|QA (J7 rfl rfl (by omega))<|QA (Qw (i:=(i2.k - 1)+(m+2)) rfl (congrArg (fun z:Int=>some (Value.int .i64 z)) (by omega)) Qd Qs (by omega))<|QQ (vs:=[_]) rfl rfl rfl Qs rfl .here (VK (by first | omega | (simp only [List.length_set];omega)) ((Qb (i3.U') ((i2.k - 1)+(m+2)) - i3.br))) ⟨rfl,trivial⟩<|JS_nt<|QG<|J_sr<|JS_mv rfl<|JS_mv rfl<|JS_mv rfl<|QA (Qp rfl rfl (by omega))<|QA (Qw (i:=(i2.k - 1)+(m+2)) rfl (congrArg (fun z:Int=>some (Value.int .i64 z)) (by omega)) Qd Qs (by omega)) ?_
      refine QA (YN (c:=(((i3.U').set ((i2.k - 1)+(m+2)) ((Qb (i3.U') ((i2.k - 1)+(m+2)) - i3.br)))).map Qx++rest) (T':=3) rfl Qs .here (Zh (by first | omega | (simp only [List.length_set];omega))))<|QA (QU rfl rfl rfl)<|QE<|QC ?_
      refine QP rfl (fun hc=>?_) (fun hc=>?_)
      ·
       have hneg:Qb i3.U' ((i2.k - 1)+(m+2)) - i3.br<0:=by have:=dec_t hc;rw [htp] at this;exact this
       refine J_sr<|JS_mv rfl<|QA (J7 rfl rfl (by omega))<|JS_as rfl<|JS_nt<|J_sr<|JS_as rfl<|JS_nt<|QG<|J_sr<|JS_as rfl<|JS_nt<|QX<|Jw (ι:=cD (i3.U'.set ((i2.k - 1)+(m+2)) (Qb i3.U' ((i2.k - 1)+(m+2)) - i3.br)) l55 (i2.k - 1) (m+2)) [(8,_),(9,_),(10,_),(11,_),(12,_),(13,_),(14,_)] (fun i4=>[(19,.int .i64 (i4.c)),(20,.int .i64 ((i4.i:Nat):Int))]) (fun i4=>[(bu,.cells (i4.U'.map Qx++rest).toArray 3 (0,0)),(bq,.cells (i2.Q.map Qx).toArray 3 (0,0))]) (fun i4 F=>True) (fun i4=>m+2 - i4.i) (⟨0,_,0,Nat.zero_le _,B8.start hS.dg⟩) ⟨rfl,rfl,rfl,rfl,rfl,rfl,rfl,trivial⟩ ⟨rfl,rfl,trivial⟩ subl_r (fun _ _=>trivial) (fun i4=>?_)
       simp only [List.cons_append,List.nil_append]
       have hle4:=i4.le
       have lU4:=i4.h.len
       rw [List.length_set] at lU4
       have c40:=i4.h.c0
       have c41:=i4.h.c1
       refine QG<|J_sr<|JS_mv rfl<|JS_mv rfl<|QA (QU rfl rfl rfl)<|QE<|QC ?_
       refine QP rfl (fun hc=>?_) (fun hc=>?_)
       ·
        have hi4:i4.i<m+2:=by have:=dec_t hc;omega
        have bu5:=i4.h.Qb SV hi4
        have bv5:=d55.Qb JF i4.i
        rw [h9] at bu5 bv5
        have hd4:=ZY i4.h.hi (Nat.le_refl _)
        refine QO<|QC<|QG<|QX<|QG<|JR subl_r mixed (by kernel_rfl)<|QM (QD rfl)<|QM (QD rfl)<|QM (QD rfl)<|QM (Qp rfl rfl (by omega))<|QM (Qw (i:=(i2.k - 1)+i4.i) rfl (congrArg (fun z:Int=>some (Value.int .i64 z)) (by omega)) Qd Qs (by omega))<|QM (YN (c:=(i4.U').map Qx++rest) (T':=3) rfl Qs .here (Zh (by first | omega | (simp only [List.length_set];omega))))<|QM (QD rfl)<|QM (QD rfl)<|QM (JK (n:=(m+2)) (i4.i) (fun F h9=>(h9.1.1.1.1.1.1.2.1).1) rfl rfl Qd Qs (by omega))<|QM (JM (n:=(m+2)) ((i4.i)*1) (fun F h9=>(h9.1.1.1.1.1.1.2.1).1) (by omega) rfl Qs (JJ (o:=l55) (by omega)))<|QM (Qp rfl rfl (by omega))<|QM (QD rfl)<|QM (Qp rfl rfl (by omega))<|QM (QF rfl)<|Q9<|QC<|J_sr<|JS_mv rfl ?_
        refine JS_mv rfl<|JS_mv rfl<|QA (Qp rfl rfl (by omega))<|JS_mv rfl<|QA (VH rfl rfl (by omega) (by omega))<|QA (Qw (i:=(i2.k - 1)+i4.i) rfl (congrArg (fun z:Int=>some (Value.int .i64 z)) (by omega)) Qd Qs (by omega))<|QQ (vs:=[_]) rfl rfl rfl Qs rfl .here (VK (by first | omega | (simp only [List.length_set];omega)) ((((Qb (i4.U') ((i2.k - 1)+i4.i)+Qb l55 (i4.i))+i4.c)%1000000000))) ⟨rfl,trivial⟩<|JS_nt<|QB<|JS_mv rfl<|QA (Wh rfl rfl (by omega) (by omega) (by omega))<|JS_as rfl<|QE<|Qk<|QC<|QB<|JS_mv rfl<|QA (Qp rfl rfl (by omega))<|JS_as rfl<|QE ?_
        exact Ql (⟨i4.i+1,((i4.U').set ((i2.k - 1)+i4.i) ((((Qb (i4.U') ((i2.k - 1)+i4.i)+Qb l55 (i4.i))+i4.c)%1000000000))),(((Qb (i4.U') ((i2.k - 1)+i4.i)+Qb l55 (i4.i))+i4.c) / 1000000000),by omega,i4.h.step hi4 (by rw [List.length_set];omega) (by rw [h9];omega) (by omega) (by rw [h9,← hd4];omega)⟩) (by show m+2 - (i4.i+1)<m+2 - i4.i;omega) ⟨rfl,rfl,rfl,rfl,rfl,rfl,rfl,rfl,rfl,trivial⟩ subl_r (fun F h=>⟨h.1,trivial⟩)
       ·
        have hi4:i4.i=m+2:=by have:=dec_f hc;omega
        refine Qy ?_
        repeat (first | refine QZ ?_ | refine QV (by rfl) ?_)
        refine Qa<|QC ?_
        have hA4:B8 B9 (i3.U'.set ((i2.k - 1)+(m+2)) (Qb i3.U' ((i2.k - 1)+(m+2)) - i3.br)) l55 (i2.k - 1) (m+2) (m+2) i4.U' i4.c:=by have:=i4.h;rw [hi4] at this;exact this
        have hd5:Qb i4.U' ((i2.k - 1)+(m+2))=Qb i3.U' ((i2.k - 1)+(m+2)) - i3.br:=by rw [ZY hA4.hi (Nat.le_refl _)];exact htp
        have hS5:SN B9 i2.U l55 (i2.k - 1) (m+2) t89 (i3.U'.set ((i2.k - 1)+(m+2)) (Qb i3.U' ((i2.k - 1)+(m+2)) - i3.br)) (Qb i4.U' ((i2.k - 1)+(m+2))):=by rw [hd5];exact hS
        obtain ⟨g1,g2,g3,g4,g5⟩:=hA4.zw SV hS5 i2.du d55 l55l hz1 (by omega) (by rw [hd5];exact hneg) t2
        have lU4:=i4.h.len
        rw [List.length_set] at lU4
        have b5:Qb i4.U' ((i2.k - 1)+(m+2))=Qb i3.U' ((i2.k - 1)+(m+2)) - i3.br:=hd5
        refine QB<|JS_mv rfl<|JS_mv rfl<|JS_mv rfl<|QA (Qp rfl rfl (by omega))<|JS_mv rfl<|JS_mv rfl<|JS_mv rfl<|QA (Qp rfl rfl (by omega))<|QA (Qw (i:=(i2.k - 1)+(m+2)) rfl (congrArg (fun z:Int=>some (Value.int .i64 z)) (by omega)) Qd Qs (by omega))<|QA (YN (c:=(i4.U').map Qx++rest) (T':=3) rfl Qs .here (Zh (by first | omega | (simp only [List.length_set];omega))))<|JS_mv rfl<|QA (Qp rfl rfl (by omega))<|QA (Qw (i:=(i2.k - 1)+(m+2)) rfl (congrArg (fun z:Int=>some (Value.int .i64 z)) (by omega)) Qd Qs (by omega))<|QQ (vs:=[_]) rfl rfl rfl Qs rfl .here (VK (by first | omega | (simp only [List.length_set];omega)) ((Qb (i4.U') ((i2.k - 1)+(m+2))+i4.c))) ⟨rfl,trivial⟩<|JS_nt<|QB<|JS_mv rfl<|JS_mv rfl<|JS_mv rfl<|QA (Qw (i:=(i2.k - 1)) rfl (congrArg (fun z:Int=>some (Value.int .i64 z)) (by omega)) Qd Qs (by omega))<|QQ (vs:=[_]) rfl rfl rfl Qs rfl (.there .here) (Ga (by first | omega | (simp only [List.length_set];omega)) ((t89 - 1))) ⟨rfl,trivial⟩<|QE<|Qk ?_
        refine QC<|QB<|JS_mv rfl<|QA (J7 rfl rfl (by omega))<|JS_as rfl<|QE ?_
        exact Ql (i2.next hk0 (by omega) (t:=t89 - 1) g4 (by omega) g1 g2 g3 g5) (by show i2.k - 1<i2.k;omega) ⟨rfl,rfl,rfl,rfl,rfl,rfl,trivial⟩ subl_r (fun F h=>⟨h.1.1.1.1,trivial⟩)
      ·
       have hneg:0≤Qb i3.U' ((i2.k - 1)+(m+2)) - i3.br:=by have:=dec_f hc;rw [htp] at this;omega
       obtain ⟨g1,g2,g3⟩:=hS.zw SV (by omega) hneg (by rw [h9];omega) t3
       refine QO<|QC<|QB<|JS_mv rfl<|JS_mv rfl<|JS_mv rfl<|QA (Qw (i:=(i2.k - 1)) rfl (congrArg (fun z:Int=>some (Value.int .i64 z)) (by omega)) Qd Qs (by omega))<|QQ (vs:=[_]) rfl rfl rfl Qs rfl (.there .here) (Ga (by first | omega | (simp only [List.length_set];omega)) (t89)) ⟨rfl,trivial⟩<|QE<|Qk<|QC<|QB<|JS_mv rfl<|QA (J7 rfl rfl (by omega))<|JS_as rfl<|QE ?_
       exact Ql (i2.next hk0 (by omega) (t:=t89) t0 t1 g1 g2 g3 hS.len) (by show i2.k - 1<i2.k;omega) ⟨rfl,rfl,rfl,rfl,rfl,rfl,trivial⟩ subl_r (fun F h=>⟨h.1.1.1,trivial⟩)
    ·
     have hk0:i2.k=0:=by have:=dec_f hc;omega
     refine Qy ?_
     repeat (first | refine QZ ?_ | refine QV (by rfl) ?_)
     refine Qa<|QC<|QG ?_
     obtain ⟨s1,s2⟩:=i2.stop hk0 db da e55 f2 hb d55 l55l
     have lt40:=Xy (i2.U.take (m+2))
     rw [List.length_take] at lt40
     refine No (b:=bu) .here<|No (b:=bq) .here<|JR subl_r mixed (by kernel_rfl)<|QM (QD rfl)<|QM (QD rfl)<|QM (Lz (m+2) rfl rfl rfl Qd Qs (by omega))<|Qg rfl (fun w F hF h9=>Wn hF (r:=⟨some ⟨bu,0,none⟩,m+2,cu⟩) ((JL.own h9.1.2 i2.lu hcu).take (by omega)) (by rw [List.length_take];omega)) (fun c196=>QM (QD rfl)<|QM (JK (n:=1) (0) (fun F h9=>(Q4.of (n:=1) (sz:=1) h9.1.1.1.1.1.1.2 rfl)) rfl (congrArg (fun z:Int=>some (Value.int .i64 z)) (by omega)) Qd Qs (by omega))<|QM (JM (n:=1) ((0)*1) (fun F h9=>(Q4.of (n:=1) (sz:=1) h9.1.1.1.1.1.1.2 rfl)) (by omega) rfl Qs rfl)<|Qg rfl (fun w F hF h9=>D3 hF (a:=Q2 (i2.U.take (m+2))) (ra:=⟨some ⟨bu,0,none⟩,(Q2 (i2.U.take (m+2))).length,cu⟩) h9.2 ((i2.du.take _).Q2) (by omega) (f2) (f3)) (fun c200=>QM (QD rfl)<|QM (QK rfl rfl)<|QM (QK rfl rfl)<|QM (QF rfl)<|QM (QF rfl)<|Q9<|QC<|J_sr<|JS_mv rfl<|QH rfl (fun w F hF h9=>Wn hF (r:=⟨some ⟨bq,0,none⟩,a.length+1 - (m+2),a.length+1 - (m+2)⟩) (JL.uQ h9.1.1.2 i2.lq (Nat.le_refl _)) (by omega)) (fun c204=>JS_mv rfl<|JS_as rfl<|JS_as rfl ?_)))
     refine JS_nt<|QS ?_
     exact JX (((⟨some ⟨bq,0,none⟩,(Q2 i2.Q).length,a.length+1 - (m+2)⟩,Q2 i2.Q),(c200.1.1,c200.1.2)):(Sr×List Int)×(Sr×List Int)) rfl (.tmp rfl (.tmp rfl .nil)) (rfl) (fun F h9=>⟨⟨h9.2,i2.dq.Q2,Xh _,by show dv B9 (Q2 i2.Q)=_;rw [XB];exact s1⟩,h9.1.2.1,h9.1.2.2.1,h9.1.2.2.2.1,Lw (by omega) (by rw [← s2,← XB];exact h9.1.2.2.2.2.2.2.1) h9.1.2.2.2.2.1 h9.1.2.2.2.2.2.1⟩)
end
section
open Go.RowKit Ig
structure Ri where
 neg:Bool
 r:Sr
 l:List Int
@[reducible] def Ri.v (x:Ri):Value:=.agg #[.bool x.neg,.slice x.r.q x.r.n x.r.cap]
def We (neg:Bool) (l:List Int):Int:=if neg=true then -dv B9 l else dv B9 l
def VZ (F:Gs) (x:Ri) (z:Int):Prop:=JL F x.r x.l∧DG B9 x.l∧NZ x.l∧z=We x.neg x.l∧(x.neg=true→0<dv B9 x.l)
theorem VZ.le {F F':Gs} {x:Ri} {z:Int} (h:VZ F x z) (k:Gs.le F F'):VZ F' x z:=⟨h.1.le k,h.2⟩
abbrev Hc (P:Program) (f:FuncId) (args:List Value) (w:World) (F:Gs) (z:Int):Prop:=QT P f args w F Ri.v (fun x F=>VZ F x z)
structure V5 (neg:Bool) (l:List Int) (z:Int):Prop where
 dg:DG B9 l
 nz:NZ l
 e:z=We neg l
 ng:neg=true→0<dv B9 l
theorem VZ.p {F:Gs} {x:Ri} {z:Int} (h:VZ F x z):V5 x.neg x.l z:=⟨h.2.1,h.2.2.1,h.2.2.2.1,h.2.2.2.2⟩
theorem V5.v0 {neg:Bool} {l:List Int} {z:Int} (h:V5 neg l z):0≤dv B9 l:=Qu JF h.dg
theorem V5.abs {neg:Bool} {l:List Int} {z:Int} (h:V5 neg l z):(z.natAbs:Int)=dv B9 l:=by
 have:=h.v0
 rw [h.e,We];split<;>omega
theorem uY {l:List Int} (h:DG B9 l) (z:NZ l):l.length≤sz (dv B9 l):=by
 rcases Nat.eq_zero_or_pos l.length with g | g
 ·omega
 ·have h1:=Bk JF h z (by intro e;rw [e] at g;simp at g)
  have h2:=G4 (dv B9 l)
  have h3:=Qu JF h
  rcases Nat.lt_or_ge (sz (dv B9 l)) l.length with q | q
  ·exfalso
   have h4:(2:Int)^(l.length - 1)≤B9^(l.length - 1):=by
    have:∀ n:Nat,(2:Int)^n≤B9^n:=by
     intro n
     induction n with
     |zero=>simp
     |succ n ih =>
      rw [Int.pow_succ,Int.pow_succ]
      exact Int.mul_le_mul ih (by decide) (by decide) (Int.le_of_lt (pow_pos JF n))
    exact this _
   have h5:(2:Int)^sz (dv B9 l)≤2^(l.length - 1):=KH (by decide) (by omega)
   have h6:((dv B9 l).natAbs:Int)<((2^sz (dv B9 l):Nat):Int):=Int.ofNat_lt.2 h2
   rw [Int.natCast_pow] at h6
   have:((2:Nat):Int)=2:=rfl
   rw [this] at h6
   omega
  ·exact q
theorem V5.len {neg:Bool} {l:List Int} {z:Int} (h:V5 neg l z):l.length≤sz z:=by
 have:=uY h.dg h.nz
 have e:sz (dv B9 l)=sz z:=by
  rw [← h.abs];unfold sz;simp
 omega
theorem V5.neg {neg:Bool} {l:List Int} {z:Int} (h:V5 neg l z):neg=decide (z<0):=by
 have h0:=h.v0
 cases neg with
 |true=>have:=h.ng rfl;have e:=h.e;simp only [We,if_true] at e;symm;rw [decide_eq_true_eq];omega
 |false=>have e:=h.e;simp only [We] at e;symm;rw [decide_eq_false_iff_not];simp at e;omega
theorem V5.zero {neg:Bool} {l:List Int} {z:Int} (h:V5 neg l z):l=[]↔z=0:=by
 have:=Yq SV h.dg h.nz
 have e:=h.abs
 rw [← this];omega
theorem LX {l:List Int} (h:DG B9 l):(0<(Q2 l).length)↔0<dv B9 l:=by
 have h1:=Yq SV h.Q2 (Xh l)
 rw [XB] at h1
 have h2:=Qu JF h
 rw [← List.length_eq_zero_iff] at h1
 omega
theorem Z3 {w:World} {F:Gs} {r:Sr} {l:List Int} {neg:Bool} (hF:Fits F w) (hR:JL F r l) (dg:DG B9 l) (hl:l.length≤1000000000):Hc Tryz.prog 233 [.bool neg,r.v] w F (We neg l):=by
 obtain ⟨q,n,c⟩:=r
 have hn:=hR.2.1
 dsimp only [Sr.v] at hn ⊢
 have hlz:=Xy l
 have htp:=LX dg
 have hv0:=Qu JF dg
 refine QT.intro (G:=fun F=>JL F ⟨q,n,c⟩ l) Tryz.func233 rfl (by rfl) rfl rfl hF (fun F' hF'=>hR.le hF')<|J_sr<|Qf Yj (fun b4=>JS_nt<|J_sr<|JS_mv rfl<|QH rfl (fun w F hF hR=>Wn hF (r:=⟨q,n,c⟩) hR (hl)) (fun c6=>JS_as rfl<|JS_nt<|J_sr<|JS_mv rfl<|JS_mv rfl ?_))
 refine Qn (t:=8) rfl (fun hb8=>?_) (fun hb8=>?_)
 ·
  refine QJ rfl rfl<|JS_mv rfl<|QJ rfl rfl<|QA (Qi rfl Qd)<|QJ rfl rfl<|QA (QU rfl rfl rfl)<|QA (Qj rfl rfl rfl)<|JS_mv rfl<|QA (Q6 rfl OG Yj (.cons (vs:=[_]) rfl rfl rfl (.here .nil) (.cons (vs:=[_]) rfl rfl rfl (.skip (.here .nil)) .nil)))<|QQ (vs:=[_,_]) rfl rfl rfl JP rfl .here (.here (.here .nil)) ⟨rfl,rfl,trivial⟩<|JS_nt<|QS ?_
  exact QR ((⟨decide ((((Q2 l).length:Nat):Int)>0),⟨q,(Q2 l).length,c⟩,Q2 l⟩:Ri)) rfl (.Jc (c:=[_,_]) rfl JP .here .nil) (rfl) (fun F ⟨hR,h6⟩=>⟨h6,dg.Q2,Xh _,by show We neg l=We (decide ((((Q2 l).length:Nat):Int)>0)) (Q2 l);rw [We,We,XB];cases neg<;>simp_all<;>omega,fun hh=>by show 0<dv B9 (Q2 l);rw [XB];simp_all⟩)
 ·
  refine QN rfl rfl rfl<|QN rfl rfl rfl<|QN rfl rfl rfl<|QA (Qh rfl rfl rfl)<|JS_mv rfl<|QA (Q6 rfl OG Yj (.cons (vs:=[_]) rfl rfl rfl (.here .nil) (.cons (vs:=[_]) rfl rfl rfl (.skip (.here .nil)) .nil)))<|QQ (vs:=[_,_]) rfl rfl rfl JP rfl .here (.here (.here .nil)) ⟨rfl,rfl,trivial⟩<|JS_nt<|QS ?_
  exact QR ((⟨false,⟨q,(Q2 l).length,c⟩,Q2 l⟩:Ri)) rfl (.Jc (c:=[_,_]) rfl JP .here .nil) (rfl) (fun F ⟨hR,h6⟩=>⟨h6,dg.Q2,Xh _,by show We neg l=We false (Q2 l);rw [We,We,XB];cases neg<;>simp_all<;>omega,fun hh=>by show 0<dv B9 (Q2 l);rw [XB];simp_all⟩)
theorem xa {x y:Int} (h:¬ ZU x y≥0):x≤y:=by
 unfold ZU at h;split at h
 ·omega
 ·split at h<;>omega
theorem IQ {a b:Int} (hb:0<b):(-a) / b=if 0<a%b then -(a / b+1) else -(a / b):=by
 have h1:=Int.emod_add_mul_ediv a b
 have h2:=Int.emod_nonneg a (Int.ne_of_gt hb)
 have h3:=Int.emod_lt_of_pos a hb
 split
 ·refine Xw hb ?_ ?_
  ·rw [Int.neg_mul,Int.add_mul,Int.one_mul,Int.mul_comm (a / b)];omega
  ·rw [Int.add_mul,Int.one_mul,Int.neg_mul,Int.add_mul,Int.one_mul,Int.mul_comm (a / b)];omega
 ·refine Xw hb ?_ ?_
  ·rw [Int.neg_mul,Int.mul_comm (a / b)];omega
  ·rw [Int.add_mul,Int.one_mul,Int.neg_mul,Int.mul_comm (a / b)];omega
end
section
open Go.RowKit Ig
theorem jz {w:World} {F:Gs} {x y:Ri} {zx zy:Int} (hF:Fits F w) (hx:VZ F x zx) (hy:VZ F y zy) (hp:0<zy) (hzx:sz zx≤1000000) (hzy:sz zy≤1000000):Hc Tryz.prog 193 [x.v,y.v] w F (zx / zy):=by
 obtain ⟨xn,⟨xq,xm,xc⟩,xl⟩:=x
 have px:=hx.p
 have lx:=px.len
 have kx:=hx.1.2.1
 have vx:=px.v0
 dsimp only at px lx kx vx
 obtain ⟨yn,⟨yq,ym,yc⟩,yl⟩:=y
 have py:=hy.p
 have ly:=py.len
 have ky:=hy.1.2.1
 have vy:=py.v0
 dsimp only at py ly ky vy
 dsimp only [Ri.v]
 have hyv:dv B9 yl=zy:=by have:=py.abs;omega
 have hd0:0<dv B9 yl:=by omega
 refine QT.intro (G:=fun F=>VZ F ⟨xn,⟨xq,xm,xc⟩,xl⟩ zx∧VZ F ⟨yn,⟨yq,ym,yc⟩,yl⟩ zy) Tryz.func193 rfl (by rfl) rfl rfl hF (fun F' hF'=>⟨hx.le hF',hy.le hF'⟩)<|J_sr<|Q5 rfl (vs:=[_,_]) rfl (fun b2=>Q5 rfl (vs:=[_,_]) rfl (fun b3=>Qf Yj (fun b4=>JS_nt<|J_sr<|QA (QI rfl Z6 Qv)<|QA (Qo rfl Qv (.there (.there .here)) (.skip (.here .nil)))<|QA (QI rfl Z6 Qv)<|QA (Qo rfl Qv (.there .here) (.skip (.here .nil)))<|QH rfl (fun w F hF h9=>GX hF (a:=xl) (b:=yl) (ra:=⟨xq,xm,xc⟩) (rb:=⟨yq,ym,yc⟩) h9.1.1 (h9.2.1) (px.dg) (py.dg) (px.nz) (py.nz) (hd0) (by omega) (by omega)) (fun c12=>JS_mv rfl<|QA (QK rfl rfl)<|QA (QK rfl rfl)<|JS_as rfl<|JS_as rfl<|JS_nt<|QG<|QG<|X3 _ (fun w F hF h=>And.intro h.2.1.2 (And.intro h.2.2.2 (And.intro h.2.1.1.2.1 h.2.2.1.2.1))) (fun p12=>?_)))))
 obtain ⟨p12,q12,n12,o12⟩:=p12
 have lq:c12.1.2.length≤xl.length:=GB p12.1 px.dg p12.2.1 (by rw [p12.2.2];exact Int.ediv_le_self _ vx)
 have hr0:(0<c12.2.1.n)↔0<dv B9 xl%dv B9 yl:=by
  have h1:=Yq SV q12.1 q12.2.1
  have h2:=Qu JF q12.1
  rw [q12.2.2] at h1 h2
  rw [← List.length_eq_zero_iff] at h1
  omega
 have hf:=IQ (a:=dv B9 xl) hd0
 refine QB<|QA (QI rfl KW V7)<|QA (Qo rfl V7 (.there (.there .here)) (.here .nil))<|JS_mv rfl ?_
 refine Qn (t:=17) rfl (fun hb17=>?_) (fun hb17=>?_)
 ·
  refine QJ rfl rfl<|JS_mv rfl<|QJ rfl rfl<|QA (Qi rfl Qd)<|QJ rfl rfl<|QA (QU rfl rfl rfl)<|QA (Qj rfl rfl rfl)<|QE<|QC ?_
  refine QP rfl (fun hc=>?_) (fun hc=>?_)
  ·
   refine QB<|JS_mv rfl<|QW rfl (Q7 Qd) Qs Vj rfl rfl (fun b23=>?_)
   refine QH rfl (fun w F hF h9=>Ev hF (a:=c12.1.2) (ra:=c12.1.1) (rb:=⟨some ⟨b23,0,none⟩,1,1⟩) h9.1.2.1.1 (JL.one h9.2) (p12.1) (DG.cons (by decide) (by decide) (DG.nil _)) (by omega) (by first | omega | (simp;done) | (simp;omega))) (fun c24=>?_);rcases c24 with ⟨v24,l24⟩;dsimp only
   refine JH _ (fun w F hF ⟨⟨⟨⟨hx,hy⟩,h12⟩,hs23⟩,⟨h24,h24p⟩⟩=>And.intro h24.2 h24p) (fun p24=>JS_as rfl<|JS_nt<|J_sr<|QA (QI rfl KW V7)<|QA (Qo rfl V7 (.there (.there .here)) (.here .nil))<|JS_mv rfl ?_)
   have m24:=p24.2.2.2
   simp only [List.length_singleton] at m24
   have eqn:zx / zy=We xn l24:=by
    have e24:=p24.2.2.1
    rw [SC,p12.2.2] at e24
    rw [px.e,hb17,← hyv];unfold We;simp only [if_true]
    rw [hf,if_pos (by have:=dec_t hc;omega),e24]
   refine QH rfl (fun w F hF h9=>Z3 hF (r:=v24) (l:=l24) (neg:=xn) h9.2.1 (p24.2.1) (by omega)) (fun c28=>QQ (vs:=[_,_]) rfl rfl rfl JP rfl .here (.here (.here .nil)) ⟨rfl,rfl,trivial⟩<|JS_nt<|QS ?_)
   exact QR (c28) rfl (.Jc (c:=[_,_]) rfl JP .here .nil) (rfl) (fun F h9=>(by rw [eqn];exact h9.2))
  ·
   refine QO<|QC<|J_sr<|QA (QI rfl KW V7)<|QA (Qo rfl V7 (.there (.there .here)) (.here .nil))<|JS_mv rfl ?_
   have eqn:zx / zy=We xn c12.1.2:=by
    rw [px.e,hb17,← hyv];unfold We;simp only [if_true]
    rw [hf,if_neg (by have:=dec_f hc;omega),p12.2.2]
   refine QH rfl (fun w F hF h9=>Z3 hF (r:=c12.1.1) (l:=c12.1.2) (neg:=xn) h9.2.1.1 (p12.1) (by omega)) (fun c28=>QQ (vs:=[_,_]) rfl rfl rfl JP rfl .here (.here (.here .nil)) ⟨rfl,rfl,trivial⟩<|JS_nt<|QS ?_)
   exact QR (c28) rfl (.Jc (c:=[_,_]) rfl JP .here .nil) (rfl) (fun F h9=>(by rw [eqn];exact h9.2))
 ·
  refine QN rfl rfl rfl<|QN rfl rfl rfl<|QN rfl rfl rfl<|QA (Qh rfl rfl rfl)<|JS_nt<|YF rfl<|QO<|QC<|J_sr<|QA (QI rfl KW V7)<|QA (Qo rfl V7 (.there (.there .here)) (.here .nil))<|JS_mv rfl ?_
  have eqn:zx / zy=We xn c12.1.2:=by
   rw [px.e,hb17,← hyv];unfold We;simp only [Bool.false_eq_true,if_false]
   rw [p12.2.2]
  refine QH rfl (fun w F hF h9=>Z3 hF (r:=c12.1.1) (l:=c12.1.2) (neg:=xn) h9.2.1.1 (p12.1) (by omega)) (fun c28=>QQ (vs:=[_,_]) rfl rfl rfl JP rfl .here (.here (.here .nil)) ⟨rfl,rfl,trivial⟩<|JS_nt<|QS ?_)
  exact QR (c28) rfl (.Jc (c:=[_,_]) rfl JP .here .nil) (rfl) (fun F h9=>(by rw [eqn];exact h9.2))
structure cf (A B:Int) where
 ra:Sr
 rb:Sr
 a:List Int
 b:List Int
 da:DG B9 a
 db:DG B9 b
 za:NZ a
 zb:NZ b
 la:a.length≤10000000
 lb:b.length≤10000000
 nb:b.length=rb.n
 h:Int.gcd (dv B9 a) (dv B9 b)=Int.gcd A B
end
section
open Go.RowKit Ig
section
variable {P:Program} {N:Nat} {m:Sl} {S:World→Prop} {ty:TypeId}
theorem L1 {T yT:TypeId} {x y:Operand} {a b:Int} (hx:ev m x=some (.int .i64 a)) (hy:ev m y=some (.int .i64 b)) (h:1<b) (h0 : -9223372036854775808≤a) (h1:a≤9223372036854775807):Qt P N m S (.binOp .quo T x y yT) ty (.int .i64 (a.tdiv b)):=by
 have:=I3 (P:=P) (N:=N) (m:=m) (S:=S) (ty:=ty) (T:=T) (yT:=yT) hx hy (by omega)
 have e:=Int.natAbs_tdiv a b
 have e2:a.natAbs.div b.natAbs≤a.natAbs:=Nat.div_le_self _ _
 have e3:a.natAbs.div b.natAbs≤a.natAbs / 2:=Nat.div_le_div_left (by omega) (by decide)
 rw [IntWalk.i64_in _ (by omega)] at this;exact this
end
def RW (neg:Bool) (m:Nat):Int:=if neg=true then -(m:Int) else(m:Int)
theorem C2 (neg:Bool) (m:Nat):(RW neg m).tmod 1000000000=RW neg (m%1000000000):=by
 unfold RW;split
 ·rw [Int.neg_tmod];exact congrArg Neg.neg (Int.ofNat_tmod m 1000000000).symm
 ·exact(Int.ofNat_tmod m 1000000000).symm
theorem As (neg:Bool) (m:Nat):(RW neg m).tdiv 1000000000=RW neg (m / 1000000000):=by
 unfold RW;split
 ·rw [Int.neg_tdiv];exact congrArg Neg.neg (Int.ofNat_tdiv m 1000000000).symm
 ·exact(Int.ofNat_tdiv m 1000000000).symm
theorem Ln (n:Int):n=RW (decide (n<0)) n.natAbs:=by
 unfold RW;by_cases h:n<0
 ·simp [h];omega
 ·simp [h];omega
theorem DJ (neg:Bool) (m:Nat):RW neg m=m∨RW neg m = -(m:Int):=by
 unfold RW;split
 ·exact .inr rfl
 ·exact .inl rfl
structure um (M:Nat) where
 m:Nat
 out:List Int
 v:Value
 ob:List (Nat×Obj)
 le:m≤M
 l3:out.length≤3
 dg:DG B9 out
 h:dv B9 out+B9^out.length*(m:Int)=M
 hr:Qz 3 1 v out.length (out.map Qx) ob
theorem um.two {M:Nat} (i:um M) (hM:M≤9223372036854775808) (h0:0<i.m):i.out.length≤2:=by
 rcases Nat.lt_or_ge 2 i.out.length with g | g
 ·exfalso
  have e:i.out.length=3:=by have:=i.l3;omega
  have h:=i.h
  have h1:=Qu JF i.dg
  rw [e] at h
  have h2:B9^3*1≤B9^3*(i.m:Int):=Int.mul_le_mul_of_nonneg_left (by omega) (by decide)
  have h3:B9^3=1000000000000000000000000000:=by decide
  rw [h3] at h2 h
  omega
 ·exact g
theorem Ak {l:List Int} {m M:Nat} (h:dv B9 l+B9^l.length*(m:Int)=M):dv B9 (l++[((m%1000000000:Nat):Int)])+B9^(l++[((m%1000000000:Nat):Int)]).length*((m / 1000000000:Nat):Int)=M:=by
 rw [XS,List.length_append,List.length_singleton,Int.pow_succ,Int.mul_assoc,Int.add_assoc,← Int.mul_add,← h]
 have e:((m%1000000000:Nat):Int)+B9*((m / 1000000000:Nat):Int)=m:=by
  have h9:B9=1000000000:=rfl
  rw [h9];omega
 rw [e]
theorem MW {w:World} {F:Gs} {n:Int} (hF:Fits F w) (hn : -9223372036854775808≤n∧n≤9223372036854775807):Hc Tryz.prog 176 [.int .i64 n] w F n:=by
 refine QT.intro (G:=fun F=>True) Tryz.func176 rfl (by rfl) rfl rfl hF (fun F' hF'=>trivial)<|J_sr<|Qf Yj (fun b2=>JS_nt<|J_sr<|JS_as rfl<|JS_nt<|J_sr<|JS_mv rfl<|QA (QU rfl rfl rfl)<|JS_as rfl<|JS_nt<|QG<|QX<|Jw (ι:=um n.natAbs) [(2,_),(4,_)] (fun i=>[(0,.int .i64 (RW (decide (n<0)) i.m)),(3,i.v)]) (fun i=>(b2,.cells [.bool false,.slice none 0 0].toArray 143 (0,0))::i.ob) (fun i F=>True) (fun i=>i.m) (⟨n.natAbs,[],.slice none 0 0,[],Nat.le_refl _,by simp,DG.nil _,by simp,.nil⟩) ⟨rfl,rfl,trivial⟩ ⟨congrArg (fun z:Int=>some (Value.int .i64 z)) (Ln n),rfl,trivial⟩ subl_r (fun _ _=>trivial) (fun i=>?_))
 simp only [List.cons_append,List.nil_append]
 have hle:=i.le
 have hM:n.natAbs≤9223372036854775808:=by omega
 have hcs:=DJ (decide (n<0)) i.m
 have hsr : -9223372036854775808≤RW (decide (n<0)) i.m∧RW (decide (n<0)) i.m≤9223372036854775807:=by unfold RW;split<;>rename_i g<;>simp at g<;>omega
 refine QG<|J_sr<|JS_mv rfl<|QA (QU rfl rfl rfl)<|QE<|QC ?_
 refine QP rfl (fun hc=>?_) (fun hc=>?_)
 ·
  have h9:B9=1000000000:=rfl
  have hm0:0<i.m:=by
   rcases Nat.eq_zero_or_pos i.m with g | g
   ·rw [g] at hc;cases hd:decide (n<0)<;>simp [RW,hd] at hc
   ·exact g
  have l2:=i.two hM hm0
  refine QO<|QC<|QX<|J_sr<|JS_mv rfl<|QA (j5 rfl rfl (by decide)) ?_
  rw [C2]
  refine JS_as rfl<|JS_nt<|QG<|J_sr<|JS_mv rfl<|QA (QU rfl rfl rfl)<|QE<|QC ?_
  refine QP rfl (fun hc=>?_) (fun hc=>?_)
  ·
   have e1:RW (decide (n<0)) (i.m%1000000000) = -(((i.m%1000000000):Nat):Int):=by
    have:=dec_t hc
    rcases DJ (decide (n<0)) (i.m%1000000000) with g | g<;>omega
   rw [e1]
   refine QB<|JS_mv rfl<|QA (J7 rfl rfl (by omega))<|JS_as rfl<|JS_nt<|J_sr<|JS_mv rfl<|JS_mv rfl<|QW rfl (Q7 Qd) Qs Vj rfl rfl (fun b18=>X9 (bs':=[(b2,.cells [.bool false,.slice none 0 0].toArray 143 (0,0))]++i.ob) (List.Perm.refl _) ?_)
   refine VT (ob:=i.ob) (k:=1) (sz:=1) (news:=[.int .i64 (0 - -(((i.m%1000000000):Nat):Int))]) rfl rfl Qd Qs Vj rfl Db i.hr (Src.row (off:=0) (fun F h9=>h9.2) (fun j v hv=>by rw [Nat.zero_add];show([.int .i64 (0 - -(((i.m%1000000000):Nat):Int))].toArray)[j]?=some v;rw [List.getElem?_toArray];exact hv) rfl) (by omega) (by omega) (Zq ⟨rfl,trivial⟩) (fun v19 ob19 hr19=>?_)
   refine JS_as rfl<|JS_nt<|QB<|JS_mv rfl<|QA (L1 rfl rfl (by decide) (by omega) (by omega)) ?_
   rw [As]
   refine JS_as rfl<|QE<|Qk ?_
   exact Ql (⟨i.m / 1000000000,i.out++[(((i.m%1000000000):Nat):Int)],v19,ob19,by omega,by rw [List.length_append,List.length_singleton];omega,i.dg.append (DG.cons (by omega) (by show _<B9;rw [h9];omega) (DG.nil _)),Ak i.h,by simpa [Qx] using hr19⟩) (by show i.m / 1000000000<i.m;omega) ⟨rfl,rfl,rfl,rfl,trivial⟩ subl_r (fun F h=>⟨h.1.1,trivial⟩)
  ·
   have e1:RW (decide (n<0)) (i.m%1000000000)=(((i.m%1000000000):Nat):Int):=by
    have:=dec_f hc
    rcases DJ (decide (n<0)) (i.m%1000000000) with g | g<;>omega
   rw [e1]
   refine QO<|QC<|J_sr<|JS_mv rfl<|JS_mv rfl<|QW rfl (Q7 Qd) Qs Vj rfl rfl (fun b18=>X9 (bs':=[(b2,.cells [.bool false,.slice none 0 0].toArray 143 (0,0))]++i.ob) (List.Perm.refl _) ?_)
   refine VT (ob:=i.ob) (k:=1) (sz:=1) (news:=[.int .i64 ((((i.m%1000000000):Nat):Int))]) rfl rfl Qd Qs Vj rfl Db i.hr (Src.row (off:=0) (fun F h9=>h9.2) (fun j v hv=>by rw [Nat.zero_add];show([.int .i64 ((((i.m%1000000000):Nat):Int))].toArray)[j]?=some v;rw [List.getElem?_toArray];exact hv) rfl) (by omega) (by omega) (Zq ⟨rfl,trivial⟩) (fun v19 ob19 hr19=>?_)
   refine JS_as rfl<|JS_nt<|QB<|JS_mv rfl<|QA (L1 rfl rfl (by decide) (by omega) (by omega)) ?_
   rw [As]
   refine JS_as rfl<|QE<|Qk ?_
   exact Ql (⟨i.m / 1000000000,i.out++[(((i.m%1000000000):Nat):Int)],v19,ob19,by omega,by rw [List.length_append,List.length_singleton];omega,i.dg.append (DG.cons (by omega) (by show _<B9;rw [h9];omega) (DG.nil _)),Ak i.h,by simpa [Qx] using hr19⟩) (by show i.m / 1000000000<i.m;omega) ⟨rfl,rfl,rfl,rfl,trivial⟩ subl_r (fun F h=>⟨h.1.1,trivial⟩)
 ·
  have hm0:i.m=0:=by
   rcases hcs with g | g
   ·rw [g] at hc;simp at hc;exact hc
   ·rw [g] at hc;simp at hc;exact hc
  refine Qy ?_
  repeat (first | refine QZ ?_ | refine QV (by rfl) ?_)
  refine Qa<|QC<|QG ?_
  have hfin:=i.h
  rw [hm0] at hfin
  have l3:=i.l3
  obtain ⟨r,hv,hrn,hrc,hfix⟩:=Qz.fix (w0:=w) (F0:=F) (bs1:=[(b2,.cells [.bool false,.slice none 0 0].toArray 143 (0,0))]) (G:=fun F=>True∧True) i.hr
  refine UY hfix ?_
  rw [hv]
  refine QB<|JS_mv rfl<|JS_mv rfl<|QH rfl (fun w F hF h9=>Z3 hF (r:=r) (l:=i.out) (neg:=decide (n<0)) ⟨by rw [hrn];exact h9.2,by rw [hrn],by omega⟩ (i.dg) (by omega)) (fun c24=>QQ (vs:=[_,_]) rfl rfl rfl JP rfl .here (.here (.here .nil)) ⟨rfl,rfl,trivial⟩<|JS_nt<|QS ?_)
  have e:n=We (decide (n<0)) i.out:=by
   have e2:=Ln n
   unfold We;unfold RW at e2
   split at e2<;>rename_i hs<;>simp only [hs]<;>simp<;>omega
  exact QR (c24) rfl (.Jc (c:=[_,_]) rfl JP .here .nil) (rfl) (fun F ⟨⟨⟨hT,_⟩,hX⟩,h24⟩=>(by rw [← e] at h24;exact h24))
end
section
open Go.RowKit Ig
theorem P9 {n:Nat} (h:0<n):Nt n 1=Lib.decDigits n:=by
 have hne:(Lib.decDigits n).length≠0:=fun e=>Kw n (List.eq_nil_of_length_eq_zero e)
 unfold Nt hd VW
 rw [if_neg (by omega),show 1 - (Lib.decDigits n).length=0 by omega]
 rfl
theorem RA (n:Nat):Nt n 9=VW 9 (Lib.decDigits n):=by
 unfold Nt hd
 split
 ·rename_i h;subst h;rw [Ze];decide
 ·rfl
theorem Ds {n:Nat} (h:n<1000000000):(Nt n 9).length=9:=by
 rw [RA,TJ]
 have:=Za (u:=n) (k:=9) (by omega) (by decide)
 rw [Lib.decDigits_length];exact this
structure jZ (l:List Int) where
 k:Nat
 s:List UInt8
 le:k<l.length
 ps:0<dv B9 (l.drop k)
 sl:s.length≤20+9*(l.length - k)
 h:s=Lib.decDigits (dv B9 (l.drop k)).toNat
theorem Hb {l:List Int} (hd:DG B9 l) (hz:NZ l) (h0:0<l.length):dv B9 (l.drop (l.length - 1))=Qb l (l.length - 1)∧0<Qb l (l.length - 1):=by
 have e:=J8 (l:=l) (k:=l.length - 1) (by omega)
 rw [List.drop_of_length_le (i:=l.length - 1+1) (by omega)] at e
 refine⟨by rw [e];simp [dv],?_⟩
 obtain ⟨h1,_⟩:=Rr (n:=l.length - 1) hd hz (by omega)
 omega
def jZ.start {l:List Int} (hd:DG B9 l) (hz:NZ l) (h0:0<l.length):jZ l:=⟨l.length - 1,Nt (Qb l (l.length - 1)).toNat 1,by omega,by rw [(Hb hd hz h0).1];exact(Hb hd hz h0).2,by
  have b:=hd.Qb JF (l.length - 1)
  have h9:B9=1000000000:=rfl
  rw [P9 (by have:=(Hb hd hz h0).2;omega),Lib.decDigits_length]
  have:=Za (u:=(Qb l (l.length - 1)).toNat) (k:=9) (by rw [h9] at b;omega) (by decide)
  omega,by
  rw [P9 (by have:=(Hb hd hz h0).2;omega),(Hb hd hz h0).1]⟩
theorem jZ.add {l:List Int} (i:jZ l) (hd:DG B9 l) (hk:0<i.k):dv B9 (l.drop (i.k - 1))=Qb l (i.k - 1)+B9*dv B9 (l.drop i.k):=by
 have hle:=i.le
 rw [J8 (by omega),YO,show i.k - 1+1=i.k by omega]
def jZ.next {l:List Int} (i:jZ l) (hd:DG B9 l) (hk:0<i.k):jZ l:=⟨i.k - 1,i.s++Nt (Qb l (i.k - 1)).toNat 9,by have:=i.le;omega,by
  rw [i.add hd hk]
  have b:=hd.Qb JF (i.k - 1)
  have p:=i.ps
  have:B9*1≤B9*dv B9 (l.drop i.k):=Int.mul_le_mul_of_nonneg_left (by omega) (by decide)
  have h9:B9=1000000000:=rfl
  omega,by
  have b:=hd.Qb JF (i.k - 1)
  have h9:B9=1000000000:=rfl
  rw [h9] at b
  have hle:=i.le
  have hsl:=i.sl
  rw [List.length_append,Ds (by omega)]
  omega,by
  have b:=hd.Qb JF (i.k - 1)
  have h9:B9=1000000000:=rfl
  rw [h9] at b
  have p:=i.ps
  have e:=Kb (q:=(dv B9 (l.drop i.k)).toNat) (by omega) 9 (Qb l (i.k - 1)).toNat (by decide) (by omega)
  rw [RA,i.h,← e,i.add hd hk]
  congr 1
  generalize dv B9 (l.drop i.k)=D at *
  rw [h9]
  omega⟩
end
section
open Go.RowKit Ig
structure PaI (s:List UInt8) where
 s':List UInt8
 out:List Int
 v:Value
 ob:List (Nat×Obj)
 dg:DG B9 out
 al:XH s'=true
 ll:s'.length+9*out.length≤s.length
 h:(JB s':Int)*B9^out.length+dv B9 out=JB s
 hr:Qz 3 1 v out.length (out.map Qx) ob
theorem TP:((10^9:Nat):Int)=B9:=by decide
theorem qK {s:List UInt8} {out:List Int} {z:Int} (h:(JB s:Int)*B9^out.length+dv B9 out=z) (hl:9≤s.length):(JB (s.take (s.length - 9)):Int)*B9^(out++[(JB (s.drop (s.length - 9)):Int)]).length+dv B9 (out++[(JB (s.drop (s.length - 9)):Int)])=z:=by
 have e:=Z4 (s.take (s.length - 9)) (s.drop (s.length - 9))
 rw [List.take_append_drop,List.length_drop,show s.length - (s.length - 9)=9 by omega] at e
 rw [XS,List.length_append,List.length_singleton,Int.pow_succ,← h,e,Int.natCast_add,Int.natCast_mul,TP]
 generalize B9^out.length=p
 generalize ((JB (s.take (s.length - 9)):Nat):Int)=a
 generalize ((JB (s.drop (s.length - 9)):Nat):Int)=b
 generalize B9=B
 grind
theorem M3 {s:List UInt8} (h:Lib.hasPrefix s [45]=true):1≤s.length:=by
 rcases Nat.eq_zero_or_pos s.length with g | g
 ·rw [List.eq_nil_of_length_eq_zero g] at h;simp [Lib.hasPrefix] at h
 ·omega
theorem B4 {P:Program} {Q:Exit→Act→World→Prop} {ops:Array Oper} {l:List Oper} {N:Nat} {m:Sl} {E E':Env} (h:∀ w,St E w→St E' w) (k:JS P ops Q l N m E'):JS P ops Q l N m E:=fun a w ha hw=>k a w ha (h w hw)
theorem zP {s t:List UInt8} {out:List Int} (h:(JB t:Int)*B9^out.length+dv B9 out=JB (Lib.trimPrefix s [45])):We (Lib.hasPrefix s [45]) (out++[(JB t:Int)])=Zz s:=by
 have e:dv B9 (out++[(JB t:Int)])=JB (Lib.trimPrefix s [45]):=by
  rw [XS,← h,Int.mul_comm];omega
 unfold We Zz
 rw [e]
 unfold Lib.trimPrefix
 cases Lib.hasPrefix s [45]<;>simp
theorem PZ {s:List UInt8} (h:XH s=true) (hl:s.length≤9):(JB s:Int)<B9:=by
 have h1:=Vv h
 have h2:10^s.length≤10^9:=Nat.pow_le_pow_right (by decide) hl
 have h3:=TP
 omega
theorem G7 {w:World} {F:Gs} {s:List UInt8} (hF:Fits F w) (hs:XH (Lib.trimPrefix s [45])=true) (hl:s.length≤1000000):Hc Tryz.prog 167 [tx s] w F (Zz s):=by
 refine QT.intro (G:=fun F=>True) Tryz.func167 rfl (by rfl) rfl rfl hF (fun F' hF'=>trivial)<|J_sr<|Qf Yj (fun b2=>QE<|QC ?_)
 refine K5 [(0,_),(2,_)] [(3,.bool (Lib.hasPrefix s [45]))] ⟨rfl,rfl,trivial⟩ ?_ ?_
 ·
  refine QB<|JS_mv rfl<|QA (XA rfl Xn)<|QA (QU rfl rfl rfl)<|JS_mv rfl ?_
  refine Qn (t:=8) rfl (fun hb8=>?_) (fun hb8=>?_)
  ·
   refine QJ rfl rfl<|JS_mv rfl<|QJ rfl rfl<|QA (Vw (i:=0) rfl rfl Xn (by have:=dec_t hb8;omega))<|QJ rfl rfl<|QA (QU rfl rfl rfl)<|QA (Qj rfl rfl rfl)<|JS_as rfl<|QE ?_
   exact ZB ⟨rfl,rfl,(congrArg (fun b=>some (Value.bool b)) (by have h0:0<s.length:=(by have:=dec_t hb8;omega);rw [W6 h0];exact Em rfl)),trivial⟩ subl_r (fun _ h=>h)
  ·
   refine QN rfl rfl rfl<|QN rfl rfl rfl<|QN rfl rfl rfl<|QA (Qh rfl rfl rfl)<|JS_as rfl<|QE ?_
   exact ZB ⟨rfl,rfl,(congrArg (fun b=>some (Value.bool b)) (by have h0:s.length=0:=(by have:=dec_f hb8;omega);rw [List.eq_nil_of_length_eq_zero h0];rfl)),trivial⟩ subl_r (fun _ h=>h)
 ·
  simp only [List.cons_append,List.nil_append]
  refine K5 [(2,_),(3,_)] [(0,tx (Lib.trimPrefix s [45]))] ⟨rfl,rfl,trivial⟩ ?_ ?_
  ·
   refine J_sr<|JS_mv rfl<|QE<|QC ?_
   refine QP rfl (fun hc=>?_) (fun hc=>?_)
   ·
    refine QB<|JS_mv rfl<|QA (Kr (1) rfl rfl Xn rfl (M3 hc))<|JS_as rfl<|QE ?_
    exact ZB ⟨rfl,rfl,(congrArg (fun l=>some (tx l)) (by unfold Lib.trimPrefix;rw [if_pos hc];rfl)),trivial⟩ subl_r (fun _ h=>h)
   ·
    refine QO ?_
    exact ZB ⟨rfl,rfl,(congrArg (fun l=>some (tx l)) (by unfold Lib.trimPrefix;rw [hc];rfl)),trivial⟩ subl_r (fun _ h=>h)
  ·
   simp only [List.cons_append,List.nil_append]
   have hln:(Lib.trimPrefix s [45]).length≤s.length:=Dv _ _
   refine J_sr<|JS_as rfl<|JS_nt<|QG<|QX<|Jw (ι:=PaI (Lib.trimPrefix s [45])) [(2,_),(3,_)] (fun i=>[(0,tx i.s'),(4,i.v)]) (fun i=>(b2,.cells [.bool false,.slice none 0 0].toArray 143 (0,0))::i.ob) (fun i F=>True) (fun i=>i.s'.length) (⟨Lib.trimPrefix s [45],[],.slice none 0 0,[],DG.nil _,hs,by simp,by simp,.nil⟩) ⟨rfl,rfl,trivial⟩ ⟨rfl,rfl,trivial⟩ subl_r (fun _ _=>trivial) (fun i=>?_)
   simp only [List.cons_append,List.nil_append]
   have hll:=i.ll
   refine QG<|J_sr<|JS_mv rfl<|QA (XA rfl Xn)<|QA (QU rfl rfl rfl)<|QE<|QC ?_
   refine QP rfl (fun hc=>?_) (fun hc=>?_)
   ·
    have h9:9<i.s'.length:=by have:=dec_t hc;omega
    refine QO<|QC<|QX<|J_sr<|JS_mv rfl<|JS_mv rfl<|JS_mv rfl<|QA (XA rfl Xn)<|QA (J7 rfl rfl (by omega))<|QA (Kr (i.s'.length - 9) rfl rfl Xn (congrArg (fun z:Int=>some (Value.int .i64 z)) (by omega)) (by omega))<|QH rfl (fun w F hF h9=>Mt hF (Dc i.al _) (by rw [List.length_drop];omega)) (fun _=>QW rfl (Q7 Qd) Qs Vj rfl rfl (fun b26=>X9 (bs':=[(b2,.cells [.bool false,.slice none 0 0].toArray 143 (0,0))]++i.ob) (List.Perm.refl _) ?_))
    refine VT (ob:=i.ob) (k:=1) (sz:=1) (news:=[.int .i64 ((JB (i.s'.drop (i.s'.length - 9)):Int))]) rfl rfl Qd Qs Vj rfl Db i.hr (Src.row (off:=0) (fun F h9=>h9.2) (fun j v hv=>by rw [Nat.zero_add];show([.int .i64 ((JB (i.s'.drop (i.s'.length - 9)):Int))].toArray)[j]?=some v;rw [List.getElem?_toArray];exact hv) rfl) (by omega) (by omega) (Zq ⟨rfl,trivial⟩) (fun v27 ob27 hr27=>?_)
    refine JS_as rfl<|JS_nt<|QB<|JS_mv rfl<|JS_mv rfl<|QA (XA rfl Xn)<|QA (J7 rfl rfl (by omega))<|QA (Ha (i.s'.length - 9) rfl rfl Xn (congrArg (fun z:Int=>some (Value.int .i64 z)) (by omega)) (by omega))<|JS_as rfl<|QE<|Qk ?_
    exact Ql (⟨i.s'.take (i.s'.length - 9),i.out++[(JB (i.s'.drop (i.s'.length - 9)):Int)],v27,ob27,i.dg.append (DG.cons (by omega) (PZ (Dc i.al _) (by rw [List.length_drop];omega)) (DG.nil _)),Gk i.al _,by rw [List.length_take,List.length_append,List.length_singleton];omega,qK i.h (by omega),by simpa [Qx] using hr27⟩) (by show(i.s'.take (i.s'.length - 9)).length<i.s'.length;rw [List.length_take];omega) ⟨rfl,rfl,rfl,rfl,trivial⟩ subl_r (fun F h=>⟨h.1.1.1,trivial⟩)
   ·
    have h9:i.s'.length≤9:=by have:=dec_f hc;omega
    refine Qy ?_
    repeat (first | refine QZ ?_ | refine QV (by rfl) ?_)
    refine Qa<|QC<|J_sr<|JS_mv rfl<|JS_mv rfl<|JS_mv rfl<|QH rfl (fun w F hF h9=>Mt hF (i.al) (by omega)) (fun _=>QW rfl (Q7 Qd) Qs Vj rfl rfl (fun b37=>X9 (bs':=[(b2,.cells [.bool false,.slice none 0 0].toArray 143 (0,0))]++i.ob) (List.Perm.refl _) ?_))
    refine VT (ob:=i.ob) (k:=1) (sz:=1) (news:=[.int .i64 ((JB i.s':Int))]) rfl rfl Qd Qs Vj rfl Db i.hr (Src.row (off:=0) (fun F h9=>h9.2) (fun j v hv=>by rw [Nat.zero_add];show([.int .i64 ((JB i.s':Int))].toArray)[j]?=some v;rw [List.getElem?_toArray];exact hv) rfl) (by omega) (by omega) (Zq ⟨rfl,trivial⟩) (fun v38 ob38 hr38=>?_)
    obtain ⟨r,hv,hrn,hrc,hfix⟩:=Qz.fix (w0:=w) (F0:=F) (bs1:=[(b2,.cells [.bool false,.slice none 0 0].toArray 143 (0,0))]) (G:=_) hr38
    refine B4 hfix ?_
    rw [hv]
    refine QH rfl (fun w F hF ⟨⟨⟨⟨hT,_⟩,_⟩,hs37⟩,hX⟩=>Z3 hF (r:=r) (l:=i.out++[(JB i.s':Int)]) (neg:=Lib.hasPrefix s [45]) ⟨by rw [hrn];simpa [Qx] using hX,by rw [hrn];simp,by omega⟩ (i.dg.append (DG.cons (by omega) (PZ i.al h9) (DG.nil _))) (by first | omega | (simp;omega))) (fun c39=>QQ (vs:=[_,_]) rfl rfl rfl JP rfl .here (.here (.here .nil)) ⟨rfl,rfl,trivial⟩<|JS_nt<|QS ?_)
    exact QR (c39) rfl (.Jc (c:=[_,_]) rfl JP .here .nil) (rfl) (fun F ⟨⟨⟨⟨⟨hT,_⟩,_⟩,hs37⟩,hX⟩,h39⟩=>(by rw [zP i.h] at h39;exact h39))
end
section
open Go.RowKit Ig
theorem Dp (z:Int):(X0 z).length≤sz z+2:=by
 have h:(Lib.decDigits z.natAbs).length≤sz z+1:=by
  rw [Lib.decDigits_length]
  refine Za ?_ (by omega)
  have h1:=G4 z
  have h2:2^sz z≤10^sz z:=Nat.pow_le_pow_left (by decide) _
  have h3:10^sz z≤10^(sz z+1):=Nat.pow_le_pow_right (by decide) (by omega)
  omega
 rcases Int.lt_or_le z 0 with g | g
 ·rw [YI g,List.length_cons];omega
 ·rw [J3 g];omega
theorem UL (n:Nat):(Lib.decDigits n).length≤sz (n:Int)+1:=by
 rw [Lib.decDigits_length]
 refine Za ?_ (by omega)
 have h1:=G4 (n:Int)
 have h2:2^sz (n:Int)≤10^sz (n:Int):=Nat.pow_le_pow_left (by decide) _
 have h3:10^sz (n:Int)≤10^(sz (n:Int)+1):=Nat.pow_le_pow_right (by decide) (by omega)
 simp at h1
 omega
theorem Gd (x:Rat):(Jg x).length≤2*JO x+4:=by
 have h1:=Dp x.num
 have h2:=UL x.den
 have h3:=Ji x
 have h4:=Jd x
 unfold Jg
 split
 ·omega
 ·rw [List.length_append,List.length_cons];omega
theorem RF {l:List UInt8} (h:l.contains 47=false):l.all (fun c=>!XY c)=true:=by
 rw [List.all_eq_true]
 intro c hc
 have:c≠47:=by rintro rfl;simp [hc] at h
 simp [XY,this]
theorem Gb (z:Int):(X0 z).contains 47=false:=BU z (by decide) (by decide)
theorem RR {x:Rat} (h:x.den=1):Jg x=X0 x.num∧ahead XY (Jg x)=(Jg x).length:=by
 have e:Jg x=X0 x.num:=by unfold Jg;rw [if_pos h]
 exact⟨e,by rw [e];exact RH (RF (Gb _))⟩
theorem Hi {x:Rat} (h:x.den≠1):ahead XY (Jg x)=(X0 x.num).length∧ahead XY (Jg x)<(Jg x).length∧(Jg x).take (ahead XY (Jg x))=X0 x.num∧(Jg x).drop (ahead XY (Jg x)+1)=Lib.decDigits x.den:=by
 have e:Jg x=X0 x.num++47::Lib.decDigits x.den:=by unfold Jg;rw [if_neg h]
 have h1:ahead XY (Jg x)=(X0 x.num).length:=by
  refine RG (by rw [e];simp) ?_ ?_
  ·rw [e,List.take_append_of_le_length (Nat.le_refl _),List.take_length];exact RF (Gb _)
  ·simp [e,XY]
 rw [h1]
 refine⟨rfl,by rw [e];simp,?_,?_⟩
 ·rw [e];simp
 ·rw [e,List.drop_append];simp
theorem RS (x:Rat):(ahead XY (Jg x)=(Jg x).length)↔x.den=1:=by
 constructor
 ·intro h
  by_cases g:x.den=1
  ·exact g
  ·have:=(Hi g).2.1;omega
 ·intro h;exact(RR h).2
theorem Pk (z:Int):XH (Lib.trimPrefix (X0 z) [45])=true:=by rw [Vt];exact Jb _
theorem Ia (n:Nat):XH (Lib.trimPrefix (Lib.decDigits n) [45])=true:=by rw [ZX (Jb n)];exact Jb _
theorem Fq (n:Nat):Zz (Lib.decDigits n)=n:=by rw [XK (Jb n),XM]
@[reducible] def Ri.v2 (c:Ri×Ri):Value:=.tuple #[c.1.v,c.2.v]
theorem BO {w:World} {F:Gs} {x:Rat} (hF:Fits F w) (hl:JO x≤100000):QT Tryz.prog 119 [tx (Jg x)] w F Ri.v2 (fun c F=>VZ F c.1 x.num∧VZ F c.2 x.den):=by
 have hlen:=Gd x
 refine QT.intro (G:=fun F=>True) Tryz.func119 rfl (by rfl) rfl rfl hF (fun F' hF'=>trivial)<|J_sr<|Qf Yj (fun b2=>Qf Yj (fun b3=>JS_nt<|J_sr<|JS_mv rfl<|JS_as rfl<|JS_nt<|J_sr<|JS_mv rfl<|QH rfl (fun w F hF hT=>D0 hF (by omega)) (fun _=>JS_as rfl<|JS_nt<|QG<|J_sr<|JS_mv rfl<|JS_mv rfl ?_)))
 refine QA (XA rfl Xn)<|QA (QU rfl rfl rfl)<|QE<|QC ?_
 refine QP rfl (fun hc=>?_) (fun hc=>?_)
 ·
  have hd:x.den=1:=(RS x).1 (by have:(ahead XY (Jg x):Int)=((Jg x).length:Int):=(by simpa using hc);omega)
  rw [(RR hd).1]
  refine J_sr<|JS_mv rfl<|QH rfl (fun w F hF h9=>G7 hF (Pk _) (by have:=Dp x.num;have:=Ji x;omega)) (fun c14=>QH rfl (fun w F hF h9=>MW hF (by decide)) (fun c15=>QQ (vs:=[_,_]) rfl rfl rfl JP rfl (.there .here) (.here (.here .nil)) ⟨rfl,rfl,trivial⟩<|QQ (vs:=[_,_]) rfl rfl rfl JP rfl .here (.here (.here .nil)) ⟨rfl,rfl,trivial⟩<|JS_nt<|QS ?_))
  exact JX ((c14,c15):Ri×Ri) rfl (.Jc (c:=[_,_]) rfl JP (.there .here) (.Jc (c:=[_,_]) rfl JP .here .nil)) (rfl) (fun F ⟨⟨⟨hT,_⟩,h14⟩,h15⟩=>⟨by rw [YG] at h14;exact h14,by have e:(x.den:Int)=1:=(by rw [hd];rfl);rw [e];exact h15⟩)
 ·
  have hd:¬ x.den=1:=fun g=>by have:=(RS x).2 g;rw [this] at hc;simp at hc
  obtain ⟨k1,k2,k3,k4⟩:=Hi hd
  refine QO<|QC<|QG<|JR (.cons _ (.cons _ .slnil)) mixed (by kernel_rfl)<|QM (QD rfl)<|QM (QD rfl)<|QM (Ha (ahead XY (Jg x)) rfl rfl Xn rfl (by omega)) ?_
  rw [k3]
  refine Qg rfl (fun w F hF h9=>G7 hF (Pk _) (by have:=Dp x.num;have:=Ji x;omega)) (fun c19=>QM (QD rfl)<|QM (QD rfl)<|QM (Qp rfl rfl (by omega))<|QM (Kr ((ahead XY (Jg x)+1)) rfl rfl Xn (congrArg (fun z:Int=>some (Value.int .i64 z)) (by omega)) (by omega)) ?_)
  rw [k4]
  refine Qg rfl (fun w F hF h9=>G7 hF (Ia _) (by have:=UL x.den;have:=Jd x;omega)) (fun c24=>Jh (vs:=[_,_]) rfl rfl rfl JP rfl (.there .here) (.cons _ .slnil) (fun _ h=>h.1.1) (.here (.here .nil)) ⟨rfl,rfl,trivial⟩<|Jh (vs:=[_,_]) rfl rfl rfl JP rfl .here (.cons _ .slnil) (fun _ h=>h.1.1) (.here (.here .nil)) ⟨rfl,rfl,trivial⟩<|Q9<|QC<|QS ?_)
  exact JX ((c19,c24):Ri×Ri) rfl (.Jc (c:=[_,_]) rfl JP (.there .here) (.Jc (c:=[_,_]) rfl JP .here .nil)) (rfl) (fun F ⟨⟨⟨hT,_⟩,SV⟩,h24⟩=>⟨by rw [YG] at SV;exact SV,by rw [Fq] at h24;exact h24⟩)
end
section
open Go.RowKit Ig
structure cZ (zx zy:Int) where
 n:Ri
 d:Ri
 zn:Int
 zd:Int
 h:0<zd
 e:Rat.divInt zn zd=Rat.divInt zx zy
 sn:sz zn≤500000
 sd:sz zd≤500000
end
section
open Go.RowKit Ig
def Wv (x:Rat):Rat:=if x.num<0 then -x else x
theorem jr (x:Rat):JO (Wv x)=JO x:=by
 unfold Wv;split
 ·exact Eo x
 ·rfl
def y9 (x:Rat) (c:Int×Int×Bool):Prop:=c.2.2=true→c.1=x.num∧c.2.1=(x.den:Int)∧x.num.natAbs<1000000000∧x.den<1000000000
end
section
open Go.RowKit Ig
theorem S8:Jg 0=[48]:=by
 have h:(0:Rat).num=0:=rfl
 unfold Jg
 rw [if_pos (by rfl),h,J3 (by decide)];exact Ze
end
section
open Go.RowKit Ig
def LB (s:List UInt8):Bool:=!XU ((Lib.trimPrefix s [45]).take (ahead XY (Lib.trimPrefix s [45])))||(Lib.hasPrefix s [45]&&(Lib.trimPrefix s [45]).take (ahead XY (Lib.trimPrefix s [45]))==[48])
def E5 (s:List UInt8):List UInt8:=(Lib.trimPrefix s [45]).drop (ahead XY (Lib.trimPrefix s [45])+1)
def PU (s:List UInt8):Bool:=decide (ahead XY (Lib.trimPrefix s [45])<(Lib.trimPrefix s [45]).length)
def Ip (s:List UInt8):Bool:=PU s&&(!XU (E5 s)||(E5 s==[48]||E5 s==[49]))
def LA (s:List UInt8):Bool:=decide (600<ahead XY (Lib.trimPrefix s [45]))||decide (600<(E5 s).length)
def Ot (s:List UInt8):Bool:=PU s&&!(Nat.gcd (JB ((Lib.trimPrefix s [45]).take (ahead XY (Lib.trimPrefix s [45])))) (JB (E5 s))==1)
def SK (s:List UInt8):Int:=if LB s=true then 1 else if Ip s=true then 1 else if LA s=true then 4 else if Ot s=true then 1 else 0
end
section
open Go.RowKit Ig
structure Y3 {α:Type} (l:List α) (f:α→Int) where
 i:Nat
 le:i≤l.length
 h:Qm (l.map f)=Qm ((l.map f).drop i)
section
variable {α:Type} [Inhabited α] {l:List α} {f:α→Int}
theorem Ru {i:Nat} (hi:i<l.length):(l.map f)[i]'(by simpa using hi)=f (el l i):=by rw [List.getElem_map,ZA hi]
def Y3.next (s:Y3 l f) (hi:s.i<l.length) (h:f (el l s.i)=0):Y3 l f:=⟨s.i+1,hi,by
 rw [s.h,KL (by simpa using hi) (by rw [Ru hi];exact h)]⟩
theorem Y3.hit (s:Y3 l f) (hi:s.i<l.length) (h:f (el l s.i)≠0):Qm (l.map f)=f (el l s.i):=by
 rw [s.h,WO (by simpa using hi) (by rw [Ru hi];exact h),Ru hi]
theorem Y3.stop (s:Y3 l f) (hi:l.length≤s.i):Qm (l.map f)=0:=by
 rw [s.h,List.drop_of_length_le (by simpa using hi)];rfl
end
def Y3.start {α:Type} (l:List α) (f:α→Int):Y3 l f:=⟨0,Nat.zero_le _,rfl⟩
structure PJ {α:Type} (l:List α) (p:α→Bool) where
 i:Nat
 le:i≤l.length
 h:l.all p=(l.drop i).all p
section
variable {α:Type} [Inhabited α] {l:List α} {p:α→Bool}
def PJ.next (s:PJ l p) (hi:s.i<l.length) (h:p (el l s.i)=true):PJ l p:=⟨s.i+1,hi,by rw [s.h,E4 hi,List.all_cons,h,Bool.true_and]⟩
theorem PJ.hit (s:PJ l p) (hi:s.i<l.length) (h:p (el l s.i)=false):l.all p=false:=by rw [s.h,E4 hi,List.all_cons,h,Bool.false_and]
theorem PJ.stop (s:PJ l p) (hi:l.length≤s.i):l.all p=true:=by rw [s.h,List.drop_of_length_le hi];rfl
end
def PJ.start {α:Type} (l:List α) (p:α→Bool):PJ l p:=⟨0,Nat.zero_le _,rfl⟩
def P2 (a:List UInt8) (d:Int):Bool:=decide ((a.length:Int)≤2*d+2)&&(Ja a==0&&(decide (((CT (numOf a)).length:Int)≤d)&&decide (((UU a).length:Int)≤d)))
end
section
open Go.RowKit Ig
def uW (x y:Rat):Rat:=if DY x y≤0 then x else y
def uX (x y:Rat):Rat:=if DY x y≥0 then x else y
@[reducible] def cq (a:Rat×Rat):Value:=.agg #[tx (Jg a.1),tx (Jg a.2)]
def uB (k:Nat) (a:Rat×Rat):Prop:=JO a.1≤k∧JO a.2≤k
end
section
open Go.RowKit Ig
def xO (s:Rat×Rat) (l:List (Rat×Rat)):Rat×Rat:=l.foldl (fun s p=>(uW s.1 p.1,uX s.2 p.2)) s
def uF (p:Rat×Rat):List Value:=[tx (Jg p.1),tx (Jg p.2)]
theorem vL (p:Rat×Rat):(uF p).length=2:=rfl
structure QAP (l:List (Rat×Rat)) where
 i:Nat
 s:Rat×Rat
 le:i≤l.length
 sz:uB 20000 s
 h:xO s (l.drop i)=xO (el l 0) (l.drop 1)
end
section
open Go Go.RowKit
section
variable [Dr] [df:Df]
def W4 (l:List Oper) (r:List Nat) (i:Nat):Bool:=match l[i]? with
 |some o=>o.after.all fun e=>!(Region.binds .any e)||!(r.contains e.on)
 |none=>false
def Ut (l:List Oper) (i:Nat):Bool:=match l[i]? with
 |some o=>Ju o.op
 |none=>false
def Ph (l:List Oper) (r:List Nat):Option Nat:=r.find? fun i=>Ut l i&&W4 l r i
def Mk (l:List Oper):Bool :=
 Region.noSelect l.toArray&&KJ .any l.toArray l.length&&(List.range l.length).all fun j=>match l[j]? with
  |none=>false
  |some oj=>(List.range j).all fun i=>match l[i]? with
   |none=>false
   |some oi=>if Ju oi.op||Ju oj.op then(Region.waitsFor .any l.toArray j i||oi.apart l.toArray oj) else true
theorem Mj {l:List Oper} (h:Mk l=true) {i j:Nat} (hij:i<j) {oi oj:Oper} (hi:l[i]?=some oi) (hj:l[j]?=some oj) (hq:(Ju oi.op||Ju oj.op)=true):(Region.waitsFor .any l.toArray j i||oi.apart l.toArray oj)=true:=by
 simp only [Mk,Bool.and_eq_true] at h
 have hjl:j<l.length:=by rcases Nat.lt_or_ge j l.length with g | g;exact g;rw [List.getElem?_eq_none g] at hj;cases hj
 have h1:=List.all_eq_true.1 h.2 j (List.mem_range.2 hjl)
 rw [hj] at h1
 have h2:=List.all_eq_true.1 h1 i (List.mem_range.2 hij)
 rw [hi] at h2
 simp only at h2
 rw [if_pos hq] at h2;exact h2
section
variable {P:Program} {Q:Exit→Act→World→Prop} {S:World→Prop}
def EX (P:Program) (l:List Oper) (Q:Exit→Act→World→Prop) (S:World→Prop):Nat→List Nat→Act→World→Prop
 |0,_,a,w=>Q .normal a w
 |n+1,r,a,w=>match Ph l r with
  |some i=>∃ o v,l[i]?=some o∧YieldsIf P l.toArray S o v a∧EX P l Q S n (r.erase i) (a.put o.dst v) w
  |none=>∀ i∈r,W4 l r i=true→wpOp P l.toArray (fun _ _ _=>False) i (fun a' w'=>S w'∧EX P l Q S n (r.erase i) a' w') a w
theorem LY {l:List Oper} (hB:Mk l=true) (hQ:∀ c a d v w,Q (.panic c) (Act.put a d v) w→Q (.panic c) a w) :
  ∀ (m:Nat) (r:List Nat) (listed:Array Bool) (a:Act) (w:World),r.length=m→r.Pairwise (·<·)→(∀ i,i∈r↔i<l.length∧listed.getD i true=false)→listed.size=l.length →
   (∀ j oj,l.toArray[j]?=some oj→listed.getD j false=true→∀ e∈oj.after,Region.binds .any e=true→listed.getD e.on false=true)→S w→EX P l Q S m r a w→wpAnyH P .any l.toArray Q S m listed a w:=by
 have hB':=hB
 simp only [Mk,Bool.and_eq_true] at hB'
 obtain ⟨⟨hns,hord⟩,_⟩:=hB'
 have hsel:=Region.noSelect_spec hns
 intro m
 induction m with
 |zero =>
  intro r listed a w hm hs hr hsz hcl hS h
  have:r=[]:=List.length_eq_zero_iff.1 hm
  subst this
  refine⟨?_,h⟩
  rw [List.eq_nil_iff_forall_not_mem]
  intro i hi
  obtain ⟨h1,o,ho,_⟩:=mem_ready.1 hi
  have hlt:i<l.length:=by have:=(Array.getElem?_eq_some_iff.1 ho).1;simpa using this
  have:=(hr i).2 ⟨hlt,h1⟩
  cases this
 |succ m ih =>
  intro r listed a w hm hs hr hsz hcl hS h
  have hready:∀ j,j∈Region.ready .any l.toArray listed↔j∈r∧W4 l r j=true:=by
   intro j
   rw [mem_ready,hr j]
   constructor
   ·rintro ⟨h1,o,ho,h2⟩
    have hlt:j<l.length:=by have:=(Array.getElem?_eq_some_iff.1 ho).1;simpa using this
    refine⟨⟨hlt,h1⟩,?_⟩
    unfold W4
    have ho':l[j]?=some o:=by simpa using ho
    rw [ho']
    rw [Array.all_eq_true_iff_forall_mem]
    intro e he
    cases hb:Region.binds .any e with
    |false=>rfl
    |true =>
     have:=h2 e he hb
     simp only [Bool.not_true,Bool.false_or,Bool.not_eq_true',List.contains_eq_mem,decide_eq_false_iff_not]
     intro hmem
     have h3:=((hr e.on).1 hmem).2
     rw [getD_both h3] at this;cases this
   ·rintro ⟨⟨hlt,h1⟩,h2⟩
    obtain ⟨o,ho,hed⟩:=Xr hord hlt
    refine⟨h1,o,ho,fun e he hb=>?_⟩
    unfold W4 at h2
    have ho':l[j]?=some o:=by simpa using ho
    rw [ho',Array.all_eq_true_iff_forall_mem] at h2
    have:=h2 e he
    rw [hb] at this
    simp only [Bool.not_true,Bool.false_or,Bool.not_eq_true',List.contains_eq_mem,decide_eq_false_iff_not] at this
    cases hv:listed.getD e.on false with
    |true=>rfl
    |false =>
     have hel:=hed e he hb
     exact absurd ((hr e.on).2 ⟨by omega,getD_in (by omega) hv⟩) this
  have next:∀ j,j∈Region.ready .any l.toArray listed→∀ a' w',S w'→EX P l Q S m (r.erase j) a' w'→wpAnyH P .any l.toArray Q S m (listed.setIfInBounds j true) a' w':=by
   intro j hj a' w' hS' h'
   have hjr:=((hready j).1 hj).1
   have hjsz:j<listed.size:=by rw [hsz];exact((hr j).1 hjr).1
   refine ih (r.erase j) _ a' w' (by rw [List.length_erase_of_mem hjr];omega) (hs.sublist List.erase_sublist) (fun k=>?_) (by simpa using hsz) (fun k ok hk hl e he hb=>?_) hS' h'
   ·rw [List.Nodup.mem_erase_iff (hs.imp (fun h=>Nat.ne_of_lt h)),hr k]
    by_cases hjk:j=k
    ·subst hjk;simp [hjsz]
    ·rw [getD_set_ne true hjk];simp [Ne.symm hjk]
   ·by_cases hjk:j=k
    ·subst hjk
     obtain ⟨_,oj,hoj,hall⟩:=mem_ready.1 hj
     have:ok=oj:=Option.some.inj (hk.symm.trans hoj)
     subst this
     exact getD_set_true (hall e he hb)
    ·rw [getD_set_ne false hjk] at hl
     exact getD_set_true (hcl k ok hk hl e he hb)
  unfold EX at h
  cases hp:Ph l r with
  |some j =>
   rw [hp] at h
   obtain ⟨oj,v,hoj0,hy,h'⟩:=h
   have hoj:l.toArray[j]?=some oj:=by simpa using hoj0
   have hjr:j∈r:=List.mem_of_find?_eq_some hp
   have hqr:=List.find?_some hp
   simp only [Bool.and_eq_true] at hqr
   have hq:Ju oj.op=true:=by have:=hqr.1;unfold Ut at this;rw [hoj0] at this;exact this
   have hj:j∈Region.ready .any l.toArray listed:=(hready j).2 ⟨hjr,hqr.2⟩
   have hjs:=mem_ready.1 hj
   have happ:∀ k ok,l.toArray[k]?=some ok→k≠j→listed.getD k true=false→(∀ e∈ok.after,Region.binds .any e=true→e.on≠j)→oj.apart l.toArray ok=true:=by
    intro k ok hok hkj hun hno
    have hnw:Region.waitsFor .any l.toArray k j=false:=by
     cases hv:Region.waitsFor .any l.toArray k j with
     |false=>rfl
     |true =>
      obtain ⟨o',ho',e,he,hb,hon⟩:=Region.waitsFor_spec hv
      have:o'=ok:=Option.some.inj (ho'.symm.trans hok)
      subst this
      exact absurd hon (hno e he hb)
    have hnw2:Region.waitsFor .any l.toArray j k=false:=by
     cases hv:Region.waitsFor .any l.toArray j k with
     |false=>rfl
     |true =>
      obtain ⟨o',ho',e,he,hb,hon⟩:=Region.waitsFor_spec hv
      obtain ⟨_,o2,ho2,hall⟩:=hjs
      have:o'=o2:=Option.some.inj (ho'.symm.trans ho2)
      subst this
      have:=hall e he hb
      rw [hon,getD_both hun] at this;cases this
    rcases Nat.lt_or_gt_of_ne hkj with hlt | hgt
    ·have:=Mj hB hlt (by simpa using hok) (by simpa using hoj) (by simp [hq])
     rw [hnw2] at this
     exact Ni (by simpa using this)
    ·have:=Mj hB hgt (by simpa using hoj) (by simpa using hok) (by simp [hq])
     rw [hnw] at this
     simpa using this
   exact wpAnyH_first hoj hsel (fun c a w h=>hQ c a _ v w h) m listed a w happ hj hy hS (next j hj _ w hS h')
  |none =>
   rw [hp] at h
   match r,hm,hs,hr,h,hready,next with
   |i::r,hm,hs,hr,h,hready,next =>
    have hil:=(hr i).1 (by simp)
    have hmin:∀ j,j<i→listed.getD j false=true:=by
     intro j hj
     cases hv:listed.getD j false with
     |true=>rfl
     |false =>
      have hjl:j<l.length:=by omega
      have:=(hr j).2 ⟨hjl,getD_in (by omega) hv⟩
      rcases List.mem_cons.1 this with e | e
      ·omega
      ·have:=(List.pairwise_cons.1 hs).1 j e;omega
    obtain ⟨oi,hoi,hed⟩:=Xr hord hil.1
    have hri:i∈Region.ready .any l.toArray listed:=mem_ready.2 ⟨hil.2,oi,hoi,fun e he hb=>hmin _ (hed e he hb)⟩
    refine⟨fun h0=>(by rw [h0] at hri;cases hri),fun j hj=>?_⟩
    have hj':=(hready j).1 hj
    exact Sc (wpOp_mono (fun a' w' h=>⟨h.1,next j hj a' w' h.1 h.2⟩) (h j hj'.1 hj'.2))
theorem N2 {l:List Oper} {Q':Exit→Act→World→Prop} (hB:Mk l=true) (hQ:∀ c a w,¬ Q' (.panic c) a w) {a:Act} {w:World} (hS:S w) (h:EX P l Q' S l.length (List.range' 0 l.length) a w) :
  wpAny P .any l.toArray Q' l.length (Array.replicate l.length false) a w:=by
 refine wpAny_of_held _ _ _ _ (LY hB (fun c a d v w h=>absurd h (hQ c _ w)) l.length (List.range' 0 l.length) _ a w (by simp) List.pairwise_lt_range' (fun i=>?_) (by simp) (fun j oj _ hl=>(by rw [getD_replicate_false] at hl;cases hl)) hS h)
 rw [List.mem_range'_1]
 constructor
 ·intro h
  have:i<l.length:=by omega
  simp [this]
 ·intro h;omega
theorem Me {id:Nat} {a:Act} {w:World} {l:List Oper} (hm:P.follows .mixedOrders=true) (hB:Mk l=true) (hS:S { w with drawn:=w.drawn+1 })
  (h:EX P l (Xs (Q .normal)) S l.length (List.range' 0 l.length) a { w with drawn:=w.drawn+1 }):(Code.region id l.toArray true).wp P Q a w:=by
 refine wp_region_any hm ?_
 have:=N2 (P:=P) (Q':=Xs (Q .normal)) hB (fun c a w h=>h) hS h
 simpa using Vb (Q':=Q) (fun e a w h=>by cases e<;>first | exact h | exact h.elim) _ _ _ _ this
end
section
variable {P:Program} {Q:Exit→Act→World→Prop} {N:Nat} {m:Sl} {E E0:Env} {l:List Oper} {r r':List Nat} {w0:World} {F0:Gs} {bs:List (Nat×Obj)} {G:Gs→Prop}
def JT (P:Program) (l:List Oper) (Q:Exit→Act→World→Prop) (E0:Env) (r:List Nat) (N:Nat) (m:Sl) (E:Env):Prop:=(∀ w,St E w→St E0 w)→∀ a w,Jr N m a→St E w→EX P l Q (St E0) r.length r a w
def BP (P:Program) (l:List Oper) (Q:Exit→Act→World→Prop) (E0:Env) (r:List Nat):Act→World→Prop:=fun a w=>EX P l Q (St E0) r.length r a w
theorem Yi (h:JT P l Q E0 r N m E):JD P l.toArray (Xs (BP P l Q E0 r)) E0 [] N m E:=fun hE a w ha hw=>h hE a w ha hw
theorem P3 {i:Nat} (h:i∈r):r.length=(r.erase i).length+1:=by
 rw [List.length_erase_of_mem h]
 have:=List.length_pos_of_mem h
 omega
theorem Ix (i:Nat) {o:Oper} (hp:Ph l r=some i) (ho:l[i]?=some o) (he:r.erase i=r') (h:JD P l.toArray (Xs (BP P l Q E0 r')) E0 [o] N m E):JT P l Q E0 r N m E:=by
 intro hE a w ha hw
 subst he
 have hi:i∈r:=List.mem_of_find?_eq_some hp
 rw [P3 hi]
 unfold EX
 rw [hp]
 have hq:Ju o.op=true:=by
  have:=List.find?_some hp
  simp only [Bool.and_eq_true] at this
  have:=this.1;unfold Ut at this;rw [ho] at this;exact this
 rcases h hE a w ha hw with ⟨_,v,h1,h2⟩ | ⟨h1,_⟩
 ·exact⟨o,v,ho,h1,h2⟩
 ·rw [hq] at h1;cases h1
theorem Ua {i:Nat} {o:Oper} (ho:l[i]?=some o) (hq:Ju o.op=false) (h:JD P l.toArray (Xs (BP P l Q E0 r')) E0 [o] N m E) (hE:∀ w,St E w→St E0 w) {a:Act} {w:World} (ha:Jr N m a) (hw:St E w) :
  wpOp P l.toArray (fun _ _ _=>False) i (fun a' w'=>St E0 w'∧BP P l Q E0 r' a' w') a w:=by
 have ho':l.toArray[i]?=some o:=by simpa using ho
 unfold wpOp
 simp only [ho']
 rcases h hE a w ha hw with ⟨h1,_⟩ | ⟨_,h2⟩
 ·rw [hq] at h1;cases h1
 ·split
  ·rename_i g
   rw [if_pos g] at h2
   exact .inl h2
  ·rename_i g
   rw [if_neg g] at h2
   exact h2
theorem gu (hp:Ph l r=none) (h:∀ i∈r.filter (W4 l r),∃ o,l[i]?=some o∧Ju o.op=false∧JD P l.toArray (Xs (BP P l Q E0 (r.erase i))) E0 [o] N m E) (hr:r≠[]:=by decide):JT P l Q E0 r N m E:=by
 intro hE a w ha hw
 obtain ⟨x,s,rfl⟩:=List.exists_cons_of_ne_nil hr
 show EX P l Q (St E0) (s.length+1) (x::s) a w
 unfold EX
 rw [hp]
 intro i hi hrd
 obtain ⟨o,ho,hq,hj⟩:=h i (List.mem_filter.2 ⟨hi,hrd⟩)
 have:=Ua ho hq hj hE ha hw
 refine wpOp_mono (fun a' w' h=>⟨h.1,?_⟩) this
 have h2:=h.2
 unfold BP at h2
 rw [show s.length=((x::s).erase i).length by have:=P3 hi;simp at this;omega]
 exact h2
theorem Kn (i:Nat) {o:Oper} (hp:Ph l r=none) (hl:r.filter (W4 l r)=[i]) (ho:l[i]?=some o) (hq:Ju o.op=false) (he:r.erase i=r') (h:JD P l.toArray (Xs (BP P l Q E0 r')) E0 [o] N m E) (hr:r≠[]:=by decide):JT P l Q E0 r N m E :=
 gu hp (fun k hk=>by rw [hl] at hk;cases List.mem_singleton.1 hk;exact⟨o,ho,hq,he ▸ h⟩) hr
theorem FV (i j:Nat) {o u:Oper} {r2:List Nat} (hp:Ph l r=none) (hl:r.filter (W4 l r)=[i,j]) (ho:l[i]?=some o) (hu:l[j]?=some u) (hq:Ju o.op=false) (hq2:Ju u.op=false) (he:r.erase i=r') (he2:r.erase j=r2)
  (h:JD P l.toArray (Xs (BP P l Q E0 r')) E0 [o] N m E) (h2:JD P l.toArray (Xs (BP P l Q E0 r2)) E0 [u] N m E) (hr:r≠[]:=by decide):JT P l Q E0 r N m E :=
 gu hp (fun k hk=>by
  rw [hl] at hk
  simp only [List.mem_cons,List.not_mem_nil,or_false] at hk
  rcases hk with rfl | rfl
  ·exact⟨o,ho,hq,he ▸ h⟩
  ·exact⟨u,hu,hq2,he2 ▸ h2⟩) hr
theorem yX {id:Nat} {bs0:List (Nat×Obj)} (hb0:bs0.Sublist bs) (hm:P.follows .mixedOrders=true) (hB:Mk l=true) (hr:List.range' 0 l.length=r) (h:JT P l (Xs (Q .normal)) ⟨w0,F0,bs0,G⟩ r N m ⟨w0,F0,bs,G⟩):J P (.region id l.toArray true) Q N m ⟨w0,F0,bs,G⟩:=fun a w ha hw=>by
 subst hr
 refine Me hm hB ((hw.imp hb0 fun _ h=>h).drew) ?_
 have:=h (fun _ h=>h.imp hb0 fun _ h=>h) a _ ha hw.drew
 simpa using this
theorem B3 (h:Fin Q .normal N m E):JT P l (Xs (Q .normal)) E0 [] N m E:=fun _=>h
end
end
end
section
open Go.RowKit Ig
def Hk (a:Rat×Rat) (n:Int):Rat×Rat:=(if(decide (n>0)&&(decide (n%2=0)&&(decide (Nr a.1.num<0)&&decide (Nr a.2.num>0))))=true then 0 else(Kz (a.1^n.toNat) [a.2^n.toNat]).1,(Kz (a.1^n.toNat) [a.2^n.toNat]).2)
theorem Sq {w:World} {F:Gs} {x:Sp} {a:Rat×Rat} {n:Int} (hF:Fits F w) (h:ZP F x a) (hn:0≤n∧n≤12) (hz:JO a.1≤1000000∧JO a.2≤1000000):VC Tryz.prog 149 [x.v,.int .i64 n] w F (Hk a n):=by
 obtain ⟨z1,z2⟩:=hz
 have p1:=Wm a.1 n.toNat
 have p2:=Wm a.2 n.toNat
 have m1:n.toNat*JO a.1≤12*1000000:=Nat.mul_le_mul (by omega) z1
 have m2:n.toNat*JO a.2≤12*1000000:=Nat.mul_le_mul (by omega) z2
 dsimp only [Sp.v]
 refine QT.intro (G:=fun F=>ZP F x a) Tryz.func149 rfl (by rfl) rfl rfl hF (fun F' hF'=>h.le hF')<|QG<|QB ?_
 refine Q5 rfl (vs:=[_,_,_,_,_,_,_,_]) rfl (fun b2=>?_)
 refine Qf Y0 (fun b4=>?_)
 refine QE<|QC ?_
 refine LO (ι:=Nat×Sp) [(1,_),(2,_),(4,_)] (fun i=>[(5,.pointer (some ⟨i.1,0,none⟩))]) (fun i=>[(i.1,.cells [.int .i64 i.2.lo.n.s,.slice i.2.lo.n.q i.2.lo.n.n i.2.lo.n.cap,.int .i64 i.2.lo.d.s,.slice i.2.lo.d.q i.2.lo.d.n i.2.lo.d.cap,.int .i64 i.2.hi.n.s,.slice i.2.hi.n.q i.2.hi.n.n i.2.hi.n.cap,.int .i64 i.2.hi.d.s,.slice i.2.hi.d.q i.2.hi.d.n i.2.hi.d.cap].toArray 138 (0,0)),(b4,.cells [.int .i64 0,.slice none 0 0,.int .i64 0,.slice none 0 0,.int .i64 0,.slice none 0 0,.int .i64 0,.slice none 0 0].toArray 138 (0,0)),(b2,.cells [.int .i64 x.lo.n.s,.slice x.lo.n.q x.lo.n.n x.lo.n.cap,.int .i64 x.lo.d.s,.slice x.lo.d.q x.lo.d.n x.lo.d.cap,.int .i64 x.hi.n.s,.slice x.hi.n.q x.hi.n.n x.hi.n.cap,.int .i64 x.hi.d.s,.slice x.hi.d.q x.hi.d.n x.hi.d.cap].toArray 138 (0,0))]) (fun i F=>ZP F i.2 (Kz (a.1^n.toNat) [a.2^n.toNat])) ⟨rfl,rfl,rfl,trivial⟩ ?_ ?_
 ·
  refine yX (r:=[0,1,2,3,4,5,6,7,8,9,10,11]) (.cons_cons _ (.cons_cons _ .slnil)) mixed (by kernel_rfl) rfl<|Ix 0 (by kernel_rfl) rfl rfl<|QM (QI rfl Zk Qe)<|Yi<|Ix 1 (by kernel_rfl) rfl rfl<|QM (QL (vs:=[_,_,_,_]) rfl Qe (.there .here) (.here (.here (.here (.here .nil)))) rfl)<|Yi<|Ix 2 (by kernel_rfl) rfl rfl<|QM (QD rfl)<|Yi<|Ix 4 (by kernel_rfl) rfl rfl<|QM (QI rfl Z7 Qe)<|Yi<|Ix 5 (by kernel_rfl) rfl rfl<|QM (QL (vs:=[_,_,_,_]) rfl Qe (.there .here) (.skip (.skip (.skip (.skip (.here (.here (.here (.here .nil)))))))) rfl)<|Yi<|Ix 6 (by kernel_rfl) rfl rfl<|QM (QD rfl)<|Yi ?_
  refine FV 3 10 (by kernel_rfl) (by kernel_rfl) rfl rfl rfl rfl rfl rfl ?_ ?_
  ·
   refine Qg rfl (fun w F hF ⟨⟨h1,h2⟩,⟨h3,h4⟩⟩=>EY hF ⟨by assumption,by assumption⟩ (hn.1) (by omega) (by omega)) (fun x9=>?_)
   refine Yi ?_
   refine FV 7 10 (by kernel_rfl) (by kernel_rfl) rfl rfl rfl rfl rfl rfl ?_ ?_
   ·
    refine Qg rfl (fun w F hF ⟨⟨⟨h1,h2⟩,⟨h3,h4⟩⟩,⟨h9,h9_⟩⟩=>EY hF ⟨by assumption,by assumption⟩ (hn.1) (by omega) (by omega)) (fun x13=>?_)
    refine Yi ?_
    refine FV 8 10 (by kernel_rfl) (by kernel_rfl) rfl rfl rfl rfl rfl rfl ?_ ?_
    ·
     refine Jt rfl (Q7 Wg) Qe Xp rfl rfl (fun b14=>?_) (fun w h=>h.imp (.cons_cons _ (.cons_cons _ .slnil)) (fun F h=>h.1.1))
     refine Yi ?_
     refine FV 9 10 (by kernel_rfl) (by kernel_rfl) rfl rfl rfl rfl rfl rfl ?_ ?_
     ·
      refine Qg rfl (fun w F hF ⟨⟨⟨⟨⟨h1,h2⟩,⟨h3,h4⟩⟩,⟨h9,h9_⟩⟩,⟨h13,h13_⟩⟩,hs14⟩=>KO hF (⟨h9,h9_⟩) (ps:=[(x13,a.2^n.toNat)]) (Q4.of (n:=1) (sz:=4) hs14 rfl) (fun p hp=>by simp only [List.mem_singleton] at hp;subst hp;exact⟨h13,h13_⟩) rfl (by omega) (⟨by omega,fun p hp=>by simp only [List.mem_singleton] at hp;subst hp;show JO (a.2^n.toNat)≤50000000;omega⟩)) (fun x15=>?_)
      refine Yi<|Kn 10 (by kernel_rfl) (by kernel_rfl) rfl rfl rfl ?_
      refine GQ Y0 (fun b5=>?_)
      refine Yi<|Kn 11 (by kernel_rfl) (by kernel_rfl) rfl rfl rfl<|Jh (vs:=[_,_,_,_,_,_,_,_]) rfl rfl rfl XG rfl .here (.cons_cons _ (.cons_cons _ .slnil)) (fun _ h=>h.1.1.1.1) (.here (.here (.here (.here (.here (.here (.here (.here .nil)))))))) ⟨rfl,rfl,rfl,rfl,rfl,rfl,rfl,rfl,trivial⟩<|Yi<|B3 ?_
      exact XE ((b5,x15)) ⟨rfl,rfl,rfl,rfl,trivial⟩ subl_r (fun F h9=>⟨⟨⟨h9.1.1.1.1.1.1,h9.1.1.1.1.1.2⟩,⟨h9.1.1.1.1.2.1,h9.1.1.1.1.2.2⟩⟩,⟨⟨h9.2.1.1,h9.2.1.2⟩,⟨h9.2.2.1,h9.2.2.2⟩⟩⟩)
     ·
      refine GQ Y0 (fun b5=>?_)
      refine Yi<|Kn 9 (by kernel_rfl) (by kernel_rfl) rfl rfl rfl ?_
      refine Qg rfl (fun w F hF ⟨⟨⟨⟨⟨h1,h2⟩,⟨h3,h4⟩⟩,⟨h9,h9_⟩⟩,⟨h13,h13_⟩⟩,hs14⟩=>KO hF (⟨h9,h9_⟩) (ps:=[(x13,a.2^n.toNat)]) (Q4.of (n:=1) (sz:=4) hs14 rfl) (fun p hp=>by simp only [List.mem_singleton] at hp;subst hp;exact⟨h13,h13_⟩) rfl (by omega) (⟨by omega,fun p hp=>by simp only [List.mem_singleton] at hp;subst hp;show JO (a.2^n.toNat)≤50000000;omega⟩)) (fun x15=>?_)
      refine Yi<|Kn 11 (by kernel_rfl) (by kernel_rfl) rfl rfl rfl<|Jh (vs:=[_,_,_,_,_,_,_,_]) rfl rfl rfl XG rfl .here (.cons_cons _ (.cons_cons _ .slnil)) (fun _ h=>h.1.1.1.1) (.here (.here (.here (.here (.here (.here (.here (.here .nil)))))))) ⟨rfl,rfl,rfl,rfl,rfl,rfl,rfl,rfl,trivial⟩<|Yi<|B3 ?_
      exact XE ((b5,x15)) ⟨rfl,rfl,rfl,rfl,trivial⟩ subl_r (fun F h9=>⟨⟨⟨h9.1.1.1.1.1.1,h9.1.1.1.1.1.2⟩,⟨h9.1.1.1.1.2.1,h9.1.1.1.1.2.2⟩⟩,⟨⟨h9.2.1.1,h9.2.1.2⟩,⟨h9.2.2.1,h9.2.2.2⟩⟩⟩)
    ·
     refine GQ Y0 (fun b5=>?_)
     refine Yi<|Kn 8 (by kernel_rfl) (by kernel_rfl) rfl rfl rfl ?_
     refine Jt rfl (Q7 Wg) Qe Xp rfl rfl (fun b14=>?_) (fun w h=>h.imp (.cons _ (.cons_cons _ (.cons_cons _ .slnil))) (fun F h=>h.1.1))
     refine Yi<|Kn 9 (by kernel_rfl) (by kernel_rfl) rfl rfl rfl ?_
     refine Qg rfl (fun w F hF ⟨⟨⟨⟨⟨h1,h2⟩,⟨h3,h4⟩⟩,⟨h9,h9_⟩⟩,⟨h13,h13_⟩⟩,hs14⟩=>KO hF (⟨h9,h9_⟩) (ps:=[(x13,a.2^n.toNat)]) (Q4.of (n:=1) (sz:=4) hs14 rfl) (fun p hp=>by simp only [List.mem_singleton] at hp;subst hp;exact⟨h13,h13_⟩) rfl (by omega) (⟨by omega,fun p hp=>by simp only [List.mem_singleton] at hp;subst hp;show JO (a.2^n.toNat)≤50000000;omega⟩)) (fun x15=>?_)
     refine Yi<|Kn 11 (by kernel_rfl) (by kernel_rfl) rfl rfl rfl<|Jh (vs:=[_,_,_,_,_,_,_,_]) rfl rfl rfl XG rfl .here (.cons_cons _ (.cons_cons _ .slnil)) (fun _ h=>h.1.1.1.1) (.here (.here (.here (.here (.here (.here (.here (.here .nil)))))))) ⟨rfl,rfl,rfl,rfl,rfl,rfl,rfl,rfl,trivial⟩<|Yi<|B3 ?_
     exact XE ((b5,x15)) ⟨rfl,rfl,rfl,rfl,trivial⟩ subl_r (fun F h9=>⟨⟨⟨h9.1.1.1.1.1.1,h9.1.1.1.1.1.2⟩,⟨h9.1.1.1.1.2.1,h9.1.1.1.1.2.2⟩⟩,⟨⟨h9.2.1.1,h9.2.1.2⟩,⟨h9.2.2.1,h9.2.2.2⟩⟩⟩)
   ·
    refine GQ Y0 (fun b5=>?_)
    refine Yi<|Kn 7 (by kernel_rfl) (by kernel_rfl) rfl rfl rfl ?_
    refine Qg rfl (fun w F hF ⟨⟨⟨h1,h2⟩,⟨h3,h4⟩⟩,⟨h9,h9_⟩⟩=>EY hF ⟨by assumption,by assumption⟩ (hn.1) (by omega) (by omega)) (fun x13=>?_)
    refine Yi<|Kn 8 (by kernel_rfl) (by kernel_rfl) rfl rfl rfl ?_
    refine Jt rfl (Q7 Wg) Qe Xp rfl rfl (fun b14=>?_) (fun w h=>h.imp (.cons _ (.cons_cons _ (.cons_cons _ .slnil))) (fun F h=>h.1.1))
    refine Yi<|Kn 9 (by kernel_rfl) (by kernel_rfl) rfl rfl rfl ?_
    refine Qg rfl (fun w F hF ⟨⟨⟨⟨⟨h1,h2⟩,⟨h3,h4⟩⟩,⟨h9,h9_⟩⟩,⟨h13,h13_⟩⟩,hs14⟩=>KO hF (⟨h9,h9_⟩) (ps:=[(x13,a.2^n.toNat)]) (Q4.of (n:=1) (sz:=4) hs14 rfl) (fun p hp=>by simp only [List.mem_singleton] at hp;subst hp;exact⟨h13,h13_⟩) rfl (by omega) (⟨by omega,fun p hp=>by simp only [List.mem_singleton] at hp;subst hp;show JO (a.2^n.toNat)≤50000000;omega⟩)) (fun x15=>?_)
    refine Yi<|Kn 11 (by kernel_rfl) (by kernel_rfl) rfl rfl rfl<|Jh (vs:=[_,_,_,_,_,_,_,_]) rfl rfl rfl XG rfl .here (.cons_cons _ (.cons_cons _ .slnil)) (fun _ h=>h.1.1.1.1) (.here (.here (.here (.here (.here (.here (.here (.here .nil)))))))) ⟨rfl,rfl,rfl,rfl,rfl,rfl,rfl,rfl,trivial⟩<|Yi<|B3 ?_
    exact XE ((b5,x15)) ⟨rfl,rfl,rfl,rfl,trivial⟩ subl_r (fun F h9=>⟨⟨⟨h9.1.1.1.1.1.1,h9.1.1.1.1.1.2⟩,⟨h9.1.1.1.1.2.1,h9.1.1.1.1.2.2⟩⟩,⟨⟨h9.2.1.1,h9.2.1.2⟩,⟨h9.2.2.1,h9.2.2.2⟩⟩⟩)
  ·
   refine GQ Y0 (fun b5=>?_)
   refine Yi<|Kn 3 (by kernel_rfl) (by kernel_rfl) rfl rfl rfl ?_
   refine Qg rfl (fun w F hF ⟨⟨h1,h2⟩,⟨h3,h4⟩⟩=>EY hF ⟨by assumption,by assumption⟩ (hn.1) (by omega) (by omega)) (fun x9=>?_)
   refine Yi<|Kn 7 (by kernel_rfl) (by kernel_rfl) rfl rfl rfl ?_
   refine Qg rfl (fun w F hF ⟨⟨⟨h1,h2⟩,⟨h3,h4⟩⟩,⟨h9,h9_⟩⟩=>EY hF ⟨by assumption,by assumption⟩ (hn.1) (by omega) (by omega)) (fun x13=>?_)
   refine Yi<|Kn 8 (by kernel_rfl) (by kernel_rfl) rfl rfl rfl ?_
   refine Jt rfl (Q7 Wg) Qe Xp rfl rfl (fun b14=>?_) (fun w h=>h.imp (.cons _ (.cons_cons _ (.cons_cons _ .slnil))) (fun F h=>h.1.1))
   refine Yi<|Kn 9 (by kernel_rfl) (by kernel_rfl) rfl rfl rfl ?_
   refine Qg rfl (fun w F hF ⟨⟨⟨⟨⟨h1,h2⟩,⟨h3,h4⟩⟩,⟨h9,h9_⟩⟩,⟨h13,h13_⟩⟩,hs14⟩=>KO hF (⟨h9,h9_⟩) (ps:=[(x13,a.2^n.toNat)]) (Q4.of (n:=1) (sz:=4) hs14 rfl) (fun p hp=>by simp only [List.mem_singleton] at hp;subst hp;exact⟨h13,h13_⟩) rfl (by omega) (⟨by omega,fun p hp=>by simp only [List.mem_singleton] at hp;subst hp;show JO (a.2^n.toNat)≤50000000;omega⟩)) (fun x15=>?_)
   refine Yi<|Kn 11 (by kernel_rfl) (by kernel_rfl) rfl rfl rfl<|Jh (vs:=[_,_,_,_,_,_,_,_]) rfl rfl rfl XG rfl .here (.cons_cons _ (.cons_cons _ .slnil)) (fun _ h=>h.1.1.1.1) (.here (.here (.here (.here (.here (.here (.here (.here .nil)))))))) ⟨rfl,rfl,rfl,rfl,rfl,rfl,rfl,rfl,trivial⟩<|Yi<|B3 ?_
   exact XE ((b5,x15)) ⟨rfl,rfl,rfl,rfl,trivial⟩ subl_r (fun F h9=>⟨⟨⟨h9.1.1.1.1.1.1,h9.1.1.1.1.1.2⟩,⟨h9.1.1.1.1.2.1,h9.1.1.1.1.2.2⟩⟩,⟨⟨h9.2.1.1,h9.2.1.2⟩,⟨h9.2.2.1,h9.2.2.2⟩⟩⟩)
 ·intro i
  simp only [List.cons_append,List.nil_append]
  refine QG ?_
  refine K5 [(4,_),(5,_)] [(34,.bool ((decide (n>0)&&(decide (n%2=0)&&(decide (Nr a.1.num<0)&&decide (Nr a.2.num>0))))))] ⟨rfl,rfl,trivial⟩ ?_ ?_
  ·
   refine QB<|JS_mv rfl<|QA (QU rfl rfl rfl)<|JS_mv rfl ?_
   refine Qn (t:=18) rfl (fun hb18=>?_) (fun hb18=>?_)
   ·
    refine QJ rfl rfl<|JS_mv rfl<|QJ rfl rfl<|QA (VH rfl rfl (by omega) (by omega))<|QJ rfl rfl<|QA (QU rfl rfl rfl)<|QA (Qj rfl rfl rfl)<|JS_mv rfl ?_
    refine Qn (t:=23) rfl (fun hb23=>?_) (fun hb23=>?_)
    ·
     refine QJ rfl rfl<|QA (QI rfl Zk Qe)<|QJ rfl rfl<|QA (QL (vs:=[_,_,_,_]) rfl Qe (.there (.there .here)) (.here (.here (.here (.here .nil)))) rfl)<|QJ rfl rfl ?_
     refine QH rfl (fun w F hF ⟨⟨⟨h1,h2⟩,⟨h3,h4⟩⟩,⟨⟨k1,k2⟩,⟨k3,k4⟩⟩⟩=>Gf hF ⟨by assumption,by assumption⟩) (fun _=>?_)
     refine QJ rfl rfl<|QA (QU rfl rfl rfl)<|QA (Qj rfl rfl rfl)<|JS_mv rfl ?_
     refine Qn (t:=29) rfl (fun hb29=>?_) (fun hb29=>?_)
     ·
      refine QJ rfl rfl<|QA (QI rfl Z7 Qe)<|QJ rfl rfl<|QA (QL (vs:=[_,_,_,_]) rfl Qe (.there (.there .here)) (.skip (.skip (.skip (.skip (.here (.here (.here (.here .nil)))))))) rfl)<|QJ rfl rfl ?_
      refine QH rfl (fun w F hF ⟨⟨⟨⟨h1,h2⟩,⟨h3,h4⟩⟩,⟨⟨k1,k2⟩,⟨k3,k4⟩⟩⟩,_⟩=>Gf hF ⟨by assumption,by assumption⟩) (fun _=>?_)
      refine QJ rfl rfl<|QA (QU rfl rfl rfl)<|QA (Qj rfl rfl rfl)<|QE ?_
      exact ZB ⟨rfl,rfl,(congrArg (fun b=>some (Value.bool b)) (by rw [Bool.eq_iff_iff];simp_all<;>(intros;omega))),trivial⟩ subl_r (fun _ h=>h.1.1)
     ·
      refine QN rfl rfl rfl<|QN rfl rfl rfl<|QN rfl rfl rfl<|QN rfl rfl rfl<|QA (Qh rfl rfl rfl)<|QE ?_
      exact ZB ⟨rfl,rfl,(congrArg (fun b=>some (Value.bool b)) (by rw [Bool.eq_iff_iff];simp_all<;>(intros;omega))),trivial⟩ subl_r (fun _ h=>h.1)
    ·
     refine QN rfl rfl rfl<|QN rfl rfl rfl<|QN rfl rfl rfl<|QN rfl rfl rfl<|QA (Qh rfl rfl rfl)<|JS_mv rfl<|QN rfl rfl rfl<|QN rfl rfl rfl<|QN rfl rfl rfl<|QN rfl rfl rfl<|QA (Qh rfl rfl rfl)<|QE ?_
     exact ZB ⟨rfl,rfl,(congrArg (fun b=>some (Value.bool b)) (by rw [Bool.eq_iff_iff];simp_all<;>(intros;omega))),trivial⟩ subl_r (fun _ h=>h)
   ·
    refine QN rfl rfl rfl<|QN rfl rfl rfl<|QN rfl rfl rfl<|QA (Qh rfl rfl rfl)<|JS_mv rfl<|QN rfl rfl rfl<|QN rfl rfl rfl<|QN rfl rfl rfl<|QN rfl rfl rfl<|QA (Qh rfl rfl rfl)<|JS_mv rfl<|QN rfl rfl rfl<|QN rfl rfl rfl<|QN rfl rfl rfl<|QN rfl rfl rfl<|QA (Qh rfl rfl rfl)<|QE ?_
    exact ZB ⟨rfl,rfl,(congrArg (fun b=>some (Value.bool b)) (by rw [Bool.eq_iff_iff];simp_all<;>(intros;omega))),trivial⟩ subl_r (fun _ h=>h)
  ·
   simp only [List.cons_append,List.nil_append]
   refine QP rfl (fun hc=>?_) (fun hc=>?_)
   ·
    refine QB ?_
    refine QH rfl (fun w F hF h9=>dK hF (by omega) (by omega)) (fun x35=>?_)
    refine QA (QI rfl Zk Qe)<|QQ (vs:=[_,_,_,_]) rfl rfl rfl Qe rfl .here (.here (.here (.here (.here .nil)))) ⟨rfl,rfl,rfl,rfl,trivial⟩<|JS_nt<|J_sr<|QA (QL (vs:=[_,_,_,_,_,_,_,_]) rfl XG .here (.here (.here (.here (.here (.here (.here (.here (.here .nil)))))))) rfl)<|QQ (vs:=[_,_,_,_,_,_,_,_]) rfl rfl rfl XG rfl (.there .here) (.here (.here (.here (.here (.here (.here (.here (.here .nil)))))))) ⟨rfl,rfl,rfl,rfl,rfl,rfl,rfl,rfl,trivial⟩<|JS_nt<|QS ?_
    exact QR (⟨x35,i.2.hi⟩) rfl (.Jc (c:=[_,_,_,_,_,_,_,_]) rfl XG (.there .here) .nil) (rfl) (fun F h9=>by have e:(Hk a n)=(0,(Kz (a.1^n.toNat) [a.2^n.toNat]).2):=(by unfold Hk;rw [if_pos hc]);rw [e];exact⟨⟨h9.2.1,h9.2.2⟩,⟨h9.1.2.2.1,h9.1.2.2.2⟩⟩)
   ·
    refine QO<|QC<|J_sr<|QA (QL (vs:=[_,_,_,_,_,_,_,_]) rfl XG .here (.here (.here (.here (.here (.here (.here (.here (.here .nil)))))))) rfl)<|QQ (vs:=[_,_,_,_,_,_,_,_]) rfl rfl rfl XG rfl (.there .here) (.here (.here (.here (.here (.here (.here (.here (.here .nil)))))))) ⟨rfl,rfl,rfl,rfl,rfl,rfl,rfl,rfl,trivial⟩<|JS_nt<|QS ?_
    exact QR (i.2) rfl (.Jc (c:=[_,_,_,_,_,_,_,_]) rfl XG (.there .here) .nil) (rfl) (fun F h9=>by have e:(Hk a n)=(Kz (a.1^n.toNat) [a.2^n.toNat]):=(by unfold Hk;rw [if_neg (by rw [hc];decide)]);rw [e];exact⟨⟨h9.2.1.1,h9.2.1.2⟩,⟨h9.2.2.1,h9.2.2.2⟩⟩)
end
section
open Go.RowKit Ig
def Eu (n:Int):Int:=if n<0∨n>12 then 3 else 0
theorem C4 {n:Int} (h:Eu n=0):0≤n∧n≤12:=by unfold Eu at h;split at h<;>omega
def Fx (lo hi:List UInt8) (n:Int):(List UInt8×List UInt8)×Int:=if Qm [XD lo hi,Eu n]=0 then V6 (Hk (Jk lo,Jk hi) n) else(([],[]),Qm [XD lo hi,Eu n])
theorem Lb:JO 0≤1:=by decide
theorem qH {a:Rat×Rat} {n:Int} (hn:0≤n∧n≤12) (h:JO a.1≤1000000∧JO a.2≤1000000):JO (Hk a n).1≤12000001∧JO (Hk a n).2≤12000001:=by
 have p1:=Wm a.1 n.toNat
 have p2:=Wm a.2 n.toNat
 have m1:n.toNat*JO a.1≤12*1000000:=Nat.mul_le_mul (by omega) h.1
 have m2:n.toNat*JO a.2≤12*1000000:=Nat.mul_le_mul (by omega) h.2
 have ha:=Gj (k:=12000001) [a.2^n.toNat] (a.1^n.toNat,a.1^n.toNat) ⟨by show JO (a.1^n.toNat)≤_;omega,by show JO (a.1^n.toNat)≤_;omega⟩ (fun x hx=>by simp only [List.mem_singleton] at hx;subst hx;omega)
 unfold Hk
 refine⟨?_,ha.2⟩
 show JO (if _ then _ else _)≤_
 split
 ·have:=Lb;omega
 ·exact ha.1
theorem TC {w:World} {F:Gs} {lo hi:List UInt8} {n:Int} (hF:Fits F w) (hG:JC F) (hl:lo.length≤1000000∧hi.length≤1000000):Qc Tryz.prog 48 [.agg #[tx lo,tx hi],.int .i64 n] w F (.tuple #[.agg #[tx (Fx lo hi n).1.1,tx (Fx lo hi n).1.2],.int .i64 (Fx lo hi n).2]):=by
 refine QT.intro (G:=fun F=>JC F) Tryz.func48 rfl (by rfl) rfl rfl hF (fun F' hF'=>hG.le hF')<|J_sr<|Q5 rfl (vs:=[_,_]) rfl (fun b2=>Qf Yk (fun b4=>JS_as rfl<|JS_nt<|QG ?_))
 refine K5 [(1,_),(2,_),(4,_)] [(6,.int .i64 (Qm [XD lo hi,Eu n]))] ⟨rfl,rfl,rfl,trivial⟩ ?_ ?_
 ·
  refine QB<|QA (QL (vs:=[_,_]) rfl Js (.there .here) (.here (.here .nil)) rfl)<|QH rfl (fun w F hF hGl=>KN hF hGl (hl)) (fun _=>JS_mv rfl<|QA (QU rfl rfl rfl)<|JS_mv rfl ?_)
  refine Qn (t:=11) rfl (fun hb11=>?_) (fun hb11=>?_)
  ·
   refine QN rfl rfl rfl<|QN rfl rfl rfl<|QA (Qj rfl rfl rfl)<|QH rfl (fun w F hF h9=>Zn hF ) (fun _=>QW rfl (Q7 Zj) Y1 H7 rfl rfl (fun b16=>QH rfl (fun w F hF h9=>Z5 hF (Q4.of (cs:=List.map Qx [XD lo hi,(if(true:Bool)=true then 3 else 0)]) h9.2 rfl) (by decide)) (fun _=>JS_as rfl<|QE ?_)))
   exact ZB ⟨rfl,rfl,rfl,(congrArg (fun z:Int=>some (Value.int .i64 z)) (by have h:=dec_t hb11;have e:Eu n=3:=(by unfold Eu;rw [if_pos (.inl h)]);rw [e];rfl)),trivial⟩ subl_r (fun _ h=>h.1.1.1.1)
  ·
   refine QJ rfl rfl<|JS_mv rfl<|QJ rfl rfl<|QA (QU rfl rfl rfl)<|QA (Qh rfl rfl rfl)<|QH rfl (fun w F hF h9=>Zn hF ) (fun _=>QW rfl (Q7 Zj) Y1 H7 rfl rfl (fun b16=>QH rfl (fun w F hF h9=>Z5 hF (Q4.of (cs:=List.map Qx [XD lo hi,(if(decide (n>12))=true then 3 else 0)]) h9.2 rfl) (by decide)) (fun _=>JS_as rfl<|QE ?_)))
   exact ZB ⟨rfl,rfl,rfl,(congrArg (fun z:Int=>some (Value.int .i64 z)) (by have h:=dec_f hb11;have e:Eu n=(if(decide (n>12))=true then 3 else 0):=(by unfold Eu;by_cases g:n>12<;>simp [g,h]);rw [e])),trivial⟩ subl_r (fun _ h=>h.1.1.1.1)
 ·
  simp only [List.cons_append,List.nil_append]
  refine J_sr<|JS_mv rfl<|QA (QU rfl rfl rfl)<|QE<|QC ?_
  refine QP rfl (fun hc=>?_) (fun hc=>?_)
  ·
   have he:¬ Qm [XD lo hi,Eu n]=0:=by simpa using hc
   refine J_sr<|QA (Q6 rfl KI Yk .nil)<|JS_mv rfl<|QQ (vs:=[_,_]) rfl rfl rfl Js rfl .here (.here (.here .nil)) ⟨rfl,rfl,trivial⟩<|JS_as rfl<|JS_nt<|QS ?_
   exact JX (()) rfl (.Jc (c:=[_,_]) rfl Js .here (.tmp rfl .nil)) (by unfold Fx;rw [if_neg he];rfl) (fun F hGl=>trivial)
  ·
   have he:Qm [XD lo hi,Eu n]=0:=by simpa using hc
   obtain ⟨e1,e2⟩:=YS he
   obtain ⟨k1,k2,_⟩:=Yv e1
   have hn:=C4 e2
   have s1:=XR k1
   have s2:=XR k2
   have hps:=qH (a:=(Jk lo,Jk hi)) hn ⟨by show JO (Jk lo)≤_;omega,by show JO (Jk hi)≤_;omega⟩
   refine QO<|QC<|J_sr<|QA (QL (vs:=[_,_]) rfl Js (.there .here) (.here (.here .nil)) rfl)<|QH rfl (fun w F hF hGl=>M6 hF hGl (k1) (k2) (hl)) (fun x23=>JS_mv rfl<|QH rfl (fun w F hF h9=>Sq hF ⟨⟨h9.2.1.1,h9.2.1.2⟩,⟨h9.2.2.1,h9.2.2.2⟩⟩ hn ⟨Nat.le_trans s1 (by decide),Nat.le_trans s2 (by decide)⟩) (fun x25=>QH rfl (fun w F hF h9=>Es hF h9.1.1 (r:=Hk (Jk lo,Jk hi) n) ⟨⟨h9.2.1.1,h9.2.1.2⟩,⟨h9.2.2.1,h9.2.2.2⟩⟩ ⟨by omega,by omega⟩) (fun _=>QA (QK rfl rfl)<|QA (QK rfl rfl)<|QQ (vs:=[_,_]) rfl rfl rfl Js rfl .here (.here (.here .nil)) ⟨rfl,rfl,trivial⟩<|JS_as rfl<|JS_nt<|QS ?_)))
   exact JX (()) rfl (.Jc (c:=[_,_]) rfl Js .here (.tmp rfl .nil)) (by unfold Fx;rw [if_pos he];rfl) (fun F h9=>trivial)
end
end Go.Proofs.YtknegjaeoffnbaaGreatDoor
namespace Ig
def Zi:List Int→List Int→Bool
 |x::a,y::b=>decide (y<x)||(decide (x=y)&&Zi a b)
 |_::_,[]=>true
 |[],_=>false
def before (a b:List Int):Bool:=decide (b.sum<a.sum)||(decide (a.sum=b.sum)&&Zi a b)
theorem BZ:∀ a:List Int,Zi a a=false
 |[]=>rfl
 |x::a=>by simp [Zi,BZ a]
theorem D7:∀ {a b c:List Int},Zi a b=true→Zi b c=true→Zi a c=true
 |[],_,_,h,_=>by simp [Zi] at h
 |_::_,[],_,_,h=>by simp [Zi] at h
 |_::_,_::_,[],_,_=>rfl
 |x::a,y::b,z::c,h,k=>by
  simp only [Zi,Bool.or_eq_true,Bool.and_eq_true,decide_eq_true_eq] at h k ⊢
  rcases h with h | ⟨h,h'⟩<;>rcases k with k | ⟨k,k'⟩
  ·left;omega
  ·left;omega
  ·left;omega
  ·right;exact⟨by omega,D7 h' k'⟩
theorem Pv:∀ a b:List Int,a=b∨Zi a b=true∨Zi b a=true
 |[],[]=>.inl rfl
 |[],_::_=>.inr (.inr rfl)
 |_::_,[]=>.inr (.inl rfl)
 |x::a,y::b=>by
  simp only [Zi,Bool.or_eq_true,Bool.and_eq_true,decide_eq_true_eq,List.cons.injEq]
  rcases Int.lt_trichotomy x y with h | h | h
  ·right;right;left;omega
  ·rcases Pv a b with k | k | k
   ·left;exact⟨h,k⟩
   ·right;left;right;exact⟨h,k⟩
   ·right;right;right;exact⟨h.symm,k⟩
  ·right;left;left;omega
theorem before_irrefl (a:List Int):before a a=false:=by simp [before,BZ]
theorem before_trans {a b c:List Int} (h:before a b=true) (k:before b c=true):before a c=true:=by
 simp only [before,Bool.or_eq_true,Bool.and_eq_true,decide_eq_true_eq] at h k ⊢
 rcases h with h | ⟨h,h'⟩<;>rcases k with k | ⟨k,k'⟩
 ·left;omega
 ·left;omega
 ·left;omega
 ·right;exact⟨by omega,D7 h' k'⟩
theorem Y8 (a b:List Int):a=b∨before a b=true∨before b a=true:=by
 simp only [before,Bool.or_eq_true,Bool.and_eq_true,decide_eq_true_eq]
 rcases Int.lt_trichotomy a.sum b.sum with h | h | h
 ·right;right;left;exact h
 ·rcases Pv a b with k | k | k
  ·left;exact k
  ·right;left;right;exact⟨h,k⟩
  ·right;right;right;exact⟨h.symm,k⟩
 ·right;left;left;exact h
theorem Io {a b:List Int} (h:before a b=true):a≠b:=by
 rintro rfl;rw [before_irrefl] at h;cases h
theorem jQ {a b:List Int} (h:before a b=true):before b a=false:=by
 cases hb:before b a with
 |false=>rfl
 |true=>have:=before_trans h hb;rw [before_irrefl] at this;cases this
abbrev Tm:=Rat×List Int
def Jf:List Tm→List Int→Rat
 |[],_=>0
 |t::p,k=>(if t.2=k then t.1 else 0)+Jf p k
theorem Zv (p q:List Tm) (k:List Int):Jf (p++q) k=Jf p k+Jf q k:=by
 induction p with
 |nil=>simp [Jf,Rat.zero_add]
 |cons t p ih=>simp only [List.cons_append,Jf,ih,Rat.add_assoc]
structure Canon (p:List Tm):Prop where
 CY:p.Pairwise (fun x y=>before x.2 y.2=true)
 nz:∀ t∈p,t.1≠0
theorem Canon.nil:Canon []:=⟨List.Pairwise.nil,fun _ h=>by cases h⟩
theorem Canon.tail {t:Tm} {p:List Tm} (h:Canon (t::p)):Canon p:=⟨(List.pairwise_cons.1 h.CY).2,fun x hx=>h.nz x (List.mem_cons_of_mem _ hx)⟩
theorem Y7 {p:List Tm} {k:List Int} (h:∀ t∈p,t.2≠k):Jf p k=0:=by
 induction p with
 |nil=>rfl
 |cons t p ih=>rw [Jf,if_neg (h t (by simp)),ih (fun x hx=>h x (by simp [hx])),Rat.zero_add]
theorem Canon.head {t:Tm} {p:List Tm} (h:Canon (t::p)):Jf (t::p) t.2=t.1:=by
 rw [Jf,if_pos rfl,Y7,Rat.add_zero]
 intro x hx e
 have:=(List.pairwise_cons.1 h.CY).1 x hx
 rw [e,before_irrefl] at this;cases this
theorem Canon.after {t:Tm} {p:List Tm} (h:Canon (t::p)):Jf p t.2=0:=Y7 fun x hx e=>by
 have:=(List.pairwise_cons.1 h.CY).1 x hx
 rw [e,before_irrefl] at this;cases this
theorem Canon.early {t:Tm} {p:List Tm} (h:Canon (t::p)) {k:List Int} (hk:before k t.2=true):Jf (t::p) k=0:=Y7 fun x hx e=>by
 rcases List.mem_cons.1 hx with rfl | hx
 ·rw [e,before_irrefl] at hk;cases hk
 ·have:=before_trans hk ((List.pairwise_cons.1 h.CY).1 x hx)
  rw [e,before_irrefl] at this;cases this
theorem MZ:∀ {p q:List Tm},Canon p→Canon q→(∀ k,Jf p k=Jf q k)→p=q
 |[],[],_,_,_=>rfl
 |[],y::q,_,hq,h=>by
  have:=h y.2
  rw [hq.head] at this
  exact absurd this.symm (hq.nz y (by simp))
 |x::p,[],hp,_,h=>by
  have:=h x.2
  rw [hp.head] at this
  exact absurd this (hp.nz x (by simp))
 |x::p,y::q,hp,hq,h=>by
  rcases Y8 x.2 y.2 with e | e | e
  ·have h1:=h x.2
   rw [hp.head] at h1
   have h2:=hq.head
   rw [← e] at h2
   rw [h2] at h1
   have hxy:x=y:=Prod.ext h1 e
   subst hxy
   congr 1
   refine MZ hp.tail hq.tail (fun k=>?_)
   have h3:=h k
   simp only [Jf] at h3
   generalize Jf p k=a at *
   generalize Jf q k=b at *
   grind
  ·have h1:=h x.2
   rw [hp.head,hq.early e] at h1
   exact absurd h1 (hp.nz x (by simp))
  ·have h1:=h y.2
   rw [hq.head,hp.early e] at h1
   exact absurd h1.symm (hq.nz y (by simp))
def ZK:List Tm→Tm→List Tm
 |[],t=>if t.1=0 then [] else [t]
 |x::p,t=>if before x.2 t.2=true then x::ZK p t else if x.2=t.2 then(if x.1+t.1=0 then p else(x.1+t.1,t.2)::p) else if t.1=0 then x::p else t::x::p
theorem Aa (p:List Tm) (t:Tm) (k:List Int):Jf (ZK p t) k=Jf p k+(if t.2=k then t.1 else 0):=by
 induction p with
 |nil =>
  unfold ZK
  split
  ·rename_i h;rw [h];simp [Jf,Rat.add_zero]
  ·simp [Jf,Rat.zero_add,Rat.add_zero]
 |cons x p ih =>
  unfold ZK
  split
  ·simp only [Jf,ih,Rat.add_assoc]
  ·split
   ·rename_i h
    split
    ·rename_i h0
     simp only [Jf]
     rw [h]
     by_cases hk:t.2=k
     ·simp only [hk,if_true]
      rw [Rat.add_assoc,Rat.add_comm (Jf p k),← Rat.add_assoc,h0,Rat.zero_add]
     ·simp only [hk,if_false,Rat.zero_add,Rat.add_zero]
    ·simp only [Jf]
     rw [h]
     by_cases hk:t.2=k
     ·simp only [hk,if_true]
      rw [Rat.add_assoc,Rat.add_assoc,Rat.add_comm t.1]
     ·simp only [hk,if_false,Rat.zero_add,Rat.add_zero]
   ·split
    ·rename_i h0;rw [h0];simp [Rat.add_zero]
    ·simp only [Jf];rw [Rat.add_comm]
theorem DQ {p:List Tm} {t x:Tm} (h:x∈ZK p t):x∈p∨x.2=t.2:=by
 induction p with
 |nil =>
  unfold ZK at h
  split at h
  ·cases h
  ·simp at h;subst h;exact .inr rfl
 |cons y p ih =>
  unfold ZK at h
  split at h
  ·rcases List.mem_cons.1 h with rfl | h
   ·exact .inl (by simp)
   ·rcases ih h with h | h
    ·exact .inl (by simp [h])
    ·exact .inr h
  ·split at h
   ·split at h
    ·exact .inl (by simp [h])
    ·rcases List.mem_cons.1 h with rfl | h
     ·exact .inr rfl
     ·exact .inl (by simp [h])
   ·split at h
    ·exact .inl h
    ·rcases List.mem_cons.1 h with rfl | h
     ·exact .inr rfl
     ·exact .inl h
theorem Canon.ZK {p:List Tm} (h:Canon p) (t:Tm):Canon (Ig.ZK p t):=by
 induction p with
 |nil =>
  unfold Ig.ZK
  split
  ·exact Canon.nil
  ·rename_i h0;exact⟨List.pairwise_singleton _ _,fun x hx=>by simp at hx;subst hx;exact h0⟩
 |cons x p ih =>
  have hs:=List.pairwise_cons.1 h.CY
  unfold Ig.ZK
  split
  ·rename_i hb
   have hc:=ih h.tail
   refine⟨List.pairwise_cons.2 ⟨fun y hy=>?_,hc.CY⟩,fun y hy=>?_⟩
   ·rcases DQ hy with hy | hy
    ·exact hs.1 y hy
    ·rw [hy];exact hb
   ·rcases List.mem_cons.1 hy with rfl | hy
    ·exact h.nz _ (by simp)
    ·exact hc.nz y hy
  ·rename_i hb
   split
   ·rename_i he
    split
    ·exact h.tail
    ·rename_i h0
     refine⟨List.pairwise_cons.2 ⟨fun y hy=>?_,hs.2⟩,fun y hy=>?_⟩
     ·have:=hs.1 y hy;rw [he] at this;exact this
     ·rcases List.mem_cons.1 hy with rfl | hy
      ·exact h0
      ·exact h.nz y (by simp [hy])
   ·rename_i he
    split
    ·exact h
    ·rename_i h0
     have hb':before t.2 x.2=true:=by
      rcases Y8 x.2 t.2 with q | q | q
      ·exact absurd q he
      ·exact absurd q hb
      ·exact q
     refine⟨List.pairwise_cons.2 ⟨fun y hy=>?_,h.CY⟩,fun y hy=>?_⟩
     ·rcases List.mem_cons.1 hy with rfl | hy
      ·exact hb'
      ·exact before_trans hb' (hs.1 y hy)
     ·rcases List.mem_cons.1 hy with rfl | hy
      ·exact h0
      ·exact h.nz y hy
def JQ (l:List Tm):List Tm:=l.foldl ZK []
theorem NS (l:List Tm):∀ {p:List Tm},Canon p→Canon (l.foldl ZK p)∧∀ k,Jf (l.foldl ZK p) k=Jf p k+Jf l k:=by
 induction l with
 |nil=>intro p h;exact⟨h,fun k=>by simp [Jf,Rat.add_zero]⟩
 |cons t l ih =>
  intro p h
  obtain ⟨h1,h2⟩:=ih (h.ZK t)
  exact⟨h1,fun k=>by rw [List.foldl_cons,h2,Aa,Jf,Rat.add_assoc]⟩
theorem Zw (l:List Tm):Canon (JQ l):=(NS l Canon.nil).1
theorem Kc (l:List Tm) (k:List Int):Jf (JQ l) k=Jf l k:=by
 rw [JQ,(NS l Canon.nil).2,Jf,Rat.zero_add]
def Yz (p q:List Tm):Prop:=∀ k,Jf p k=Jf q k
theorem Yz.refl (p:List Tm):Yz p p:=fun _=>rfl
theorem Yz.symm {p q:List Tm} (h:Yz p q):Yz q p:=fun k=>(h k).symm
theorem Yz.trans {p q r:List Tm} (h:Yz p q) (h':Yz q r):Yz p r:=fun k=>(h k).trans (h' k)
theorem Yz.append {p q p' q':List Tm} (h:Yz p p') (h':Yz q q'):Yz (p++q) (p'++q'):=fun k=>by rw [Zv,Zv,h,h']
theorem TN {p l:List Tm} (hp:Canon p) (h:Yz p l):p=JQ l:=MZ hp (Zw l) fun k=>by rw [Kc,h]
theorem VL {p:List Tm} (hp:Canon p):JQ p=p:=(TN hp (Yz.refl p)).symm
theorem Yz.perm {l m:List Tm} (h:l.Perm m):Yz l m:=by
 intro k
 induction h with
 |nil=>rfl
 |cons x _ ih=>rw [Jf,Jf,ih]
 |swap x y l=>simp only [Jf];rw [← Rat.add_assoc,← Rat.add_assoc];congr 1;exact Rat.add_comm _ _
 |trans _ _ h1 h2=>exact h1.trans h2
theorem Yz.cons {p q:List Tm} (t:Tm) (h:Yz p q):Yz (t::p) (t::q):=fun k=>by rw [Jf,Jf,h]
theorem eqv_filter (p:List Tm):Yz (p.filter (fun t=>decide (t.1≠0))) p:=by
 induction p with
 |nil=>exact Yz.refl _
 |cons t p ih =>
  rw [List.filter_cons]
  split
  ·exact ih.cons t
  ·rename_i h
   have h0:t.1=0:=by simpa using h
   intro k
   rw [Jf,h0,ih k];simp [Rat.zero_add]
def J0 (a b:List Int):List Int:=List.zipWith (·+·) a b
theorem Yx {a b:List Int} (h:a.length=b.length):(J0 a b).length=a.length:=by simp [J0,h]
def Um (k a:List Int):List Int:=List.zipWith (· - ·) k a
theorem EK:∀ {a b k:List Int},a.length=b.length→(J0 a b=k↔k.length=a.length∧b=Um k a)
 |[],[],k,_=>by cases k<;>simp [J0,Um]
 |x::a,y::b,[],_=>by simp [J0]
 |x::a,y::b,z::k,h=>by
  have ih:=EK (a:=a) (b:=b) (k:=k) (by simpa using h)
  simp only [J0,Um,List.zipWith_cons_cons,List.cons.injEq,List.length_cons,Nat.add_right_cancel_iff] at ih ⊢
  rw [ih]
  constructor
  ·rintro ⟨h1,h2,h3⟩;exact⟨h2,by omega,h3⟩
  ·rintro ⟨h1,h2,h3⟩;exact⟨by omega,h1,h3⟩
def Jn (s:Tm) (q:List Tm):List Tm:=q.map fun t=>(s.1*t.1,J0 s.2 t.2)
def Q8 (p q:List Tm):List Tm:=p.flatMap fun s=>Jn s q
def Zc (n:Nat) (p:List Tm):Prop:=∀ t∈p,t.2.length=n
theorem Zc.append {n:Nat} {p q:List Tm} (h:Zc n p) (k:Zc n q):Zc n (p++q):=fun t ht=>by
 rcases List.mem_append.1 ht with ht | ht
 ·exact h t ht
 ·exact k t ht
theorem Zc.tail {n:Nat} {t:Tm} {p:List Tm} (h:Zc n (t::p)):Zc n p:=fun x hx=>h x (by simp [hx])
theorem Zc.Jn {n:Nat} {s:Tm} {q:List Tm} (hs:s.2.length=n) (h:Zc n q):Zc n (Ig.Jn s q):=fun t ht=>by
 obtain ⟨u,hu,rfl⟩:=List.mem_map.1 ht
 show(J0 s.2 u.2).length=n
 rw [Yx (by rw [hs,h u hu]),hs]
theorem Zc.Q8 {n:Nat} {p q:List Tm} (h:Zc n p) (k:Zc n q):Zc n (Ig.Q8 p q):=fun t ht=>by
 obtain ⟨s,hs,ht⟩:=List.mem_flatMap.1 ht
 exact k.Jn (h s hs) t ht
theorem Zc.ZK {n:Nat} {p:List Tm} {t:Tm} (h:Zc n p) (ht:t.2.length=n):Zc n (Ig.ZK p t):=fun x hx=>by
 rcases DQ hx with hx | hx
 ·exact h x hx
 ·rw [hx];exact ht
theorem Zc.JQ {n:Nat} {l:List Tm} (h:Zc n l):Zc n (Ig.JQ l):=by
 have:∀ (l p:List Tm),Zc n p→Zc n l→Zc n (l.foldl Ig.ZK p):=by
  intro l
  induction l with
  |nil=>intro p hp _;exact hp
  |cons t l ih=>intro p hp hl;exact ih _ (hp.ZK (hl t (by simp))) hl.tail
 exact this l [] (fun _ h=>by cases h) h
theorem EI {n:Nat} {s:Tm} {q:List Tm} (hs:s.2.length=n) (h:Zc n q) (k:List Int):Jf (Jn s q) k=if k.length=n then s.1*Jf q (Um k s.2) else 0:=by
 induction q with
 |nil=>simp [Jn,Jf,Rat.mul_zero]
 |cons t q ih =>
  have ht:t.2.length=n:=h t (by simp)
  have hk:=EK (a:=s.2) (b:=t.2) (k:=k) (by rw [hs,ht])
  rw [Jn,List.map_cons,Jf]
  show(if J0 s.2 t.2=k then s.1*t.1 else 0)+Jf (Jn s q) k=_
  rw [ih h.tail]
  by_cases hl:k.length=n
  ·rw [if_pos hl,if_pos hl,Jf,Rat.mul_add]
   congr 1
   by_cases e:J0 s.2 t.2=k
   ·rw [if_pos e,if_pos (hk.1 e).2]
   ·rw [if_neg e,if_neg (fun q=>e (hk.2 ⟨by rw [hl,hs],q⟩)),Rat.mul_zero]
  ·rw [if_neg hl,if_neg hl,if_neg (fun e=>hl (by rw [(hk.1 e).1,hs])),Rat.zero_add]
theorem Xb (s:Tm) (p q:List Tm):Q8 (s::p) q=Jn s q++Q8 p q:=by simp [Q8]
theorem Vm (s:Tm) (p q:List Tm):Jn s (p++q)=Jn s p++Jn s q:=by simp [Jn]
theorem WG (p p' q:List Tm):Q8 (p++p') q=Q8 p q++Q8 p' q:=by simp [Q8]
end Ig
namespace Go.Proofs.YtknegjaeoffnbaaGreatDoor
section
open Go.RowKit Ig
variable [Dr]
def PW (l:List Int):Prop:=(∀ x∈l,0≤x∧x≤1000000)∧l.length≤1000
theorem PW.el {l:List Int} (h:PW l) {i:Nat} (hi:i<l.length):0≤Qb l i∧Qb l i≤1000000:=by rw [Xx hi];exact h.1 _ (JN hi)
theorem BH {l:List Int} {i:Nat} (hi:i<l.length):(l.take (i+1)).sum=(l.take i).sum+Qb l i:=by
 rw [X4 hi,List.sum_append,Xx hi];simp
theorem PW.sum {l:List Int} (h:PW l):∀ i,i≤l.length→0≤(l.take i).sum∧(l.take i).sum≤i*1000000:=by
 intro i
 induction i with
 |zero=>intro _;simp
 |succ i ih =>
  intro hi
  have h1:=ih (by omega)
  have h2:=h.el (i:=i) (by omega)
  rw [BH (by omega)]
  omega
theorem Et (l:List Int):Qm l=Qm (l.map fun x=>x):=by rw [List.map_id']
def UP:List Int→List Int→Int
 |[],[]=>0
 |[],_::_=>-1
 |_::_,[]=>1
 |x::a,y::b=>if ZU x y≠0 then ZU x y else UP a b
theorem RU:∀ a b:List Int,(UP b a<0↔Zi a b=true)∧(UP b a=0↔a=b)
 |[],[]=>by simp [UP,Zi]
 |[],_::_=>by simp [UP,Zi]
 |_::_,[]=>by simp [UP,Zi]
 |x::a,y::b=>by
  have ih:=RU a b
  unfold UP Zi ZU
  by_cases h1:y<x
  ·simp [h1];omega
  ·by_cases h2:y=x
   ·subst h2;simp [ih.1,ih.2]
   ·have h3:¬ x=y:=fun e=>h2 e.symm
    simp [h1,h2,h3]
theorem E6 (x y:Int):Lib.compareInt x y=ZU x y:=by
 unfold Lib.compareInt ZU
 by_cases h1:x<y
 ·simp [h1]
 ·by_cases h2:x=y
  ·subst h2;simp
  ·have h3:y<x:=by omega
   simp [h1,h2,h3]
def K8 (a b:List Int):Int:=Qm [ZU b.sum a.sum,UP b a]
theorem Kx (a b:List Int):before a b=decide (K8 a b<0):=by
 obtain ⟨h1,h2⟩:=RU a b
 unfold before K8
 rw [Bool.eq_iff_iff,decide_eq_true_iff]
 simp only [Qm]
 by_cases h:b.sum<a.sum
 ·have e:ZU b.sum a.sum = -1:=by unfold ZU;rw [if_pos h]
  rw [e];simp [h]
 ·by_cases g:b.sum=a.sum
  ·have e:ZU b.sum a.sum=0:=by unfold ZU;rw [if_neg h,if_pos g]
   rw [e]
   by_cases k:UP b a=0
   ·have hf:Zi a b=false:=by cases hl:Zi a b with
     |false=>rfl
     |true=>have:=h1.2 hl;omega
    simp [k,g,hf]
   ·simp [k,g,h1]
  ·have e:ZU b.sum a.sum=1:=by unfold ZU;rw [if_neg h,if_neg g]
   have g2:¬ a.sum=b.sum:=fun e=>g e.symm
   rw [e];simp [h,g2]
theorem yI {a b:List Int} (h:K8 a b=0):a=b:=by
 rcases Y8 a b with q | q | q
 ·exact q
 ·rw [Kx] at q;have:=dec_t q;omega
 ·
  obtain ⟨h1,h2⟩:=RU a b
  unfold K8 at h
  simp only [Qm] at h
  split at h
  ·split at h
   ·exact h2.1 (by assumption)
   ·exact absurd h (by assumption)
  ·exact absurd h (by assumption)
def Yf (l:List Int):List UInt8:=l.flatMap fun x=>Lib.itoa x++[32]
theorem V1 (x:Int) (l:List Int):Yf (x::l)=X0 x++32::Yf l:=by unfold Yf;rw [List.flatMap_cons];simp [X0]
theorem Ba:∀ {a b:List Int},Yf a=Yf b→a=b
 |[],[],_=>rfl
 |[],y::b,h=>by rw [V1] at h;simp [Yf] at h
 |x::a,[],h=>by rw [V1] at h;simp [Yf] at h
 |x::a,y::b,h=>by
  rw [V1,V1] at h
  have h1:=Bs (c:=32) (a:=X0 x) (b:=Yf a) (BU x (by decide) (by decide))
  have h2:=Bs (c:=32) (a:=X0 y) (b:=Yf b) (BU y (by decide) (by decide))
  rw [h,h2] at h1
  simp only [Prod.mk.injEq,and_true] at h1
  have e:x=y:=by rw [← YG x,← YG y,h1.1]
  rw [e,Ba h1.2.symm]
theorem DM {w:World} {F:Gs} {r:Sr} {l:List Int} (hF:Fits F w) (hR:JL F r l) (hp:PW l):Qc Tryz.prog 217 [r.v] w F (.int .i64 l.sum):=by
 obtain ⟨q,n,c⟩:=r
 have hln:=hR.2.1
 dsimp only [Sr.v] at hln ⊢
 have hl1:=hp.2
 refine QT.intro (G:=fun F=>JL F ⟨q,n,c⟩ l) Tryz.func217 rfl (by rfl) rfl rfl hF (fun F' hF'=>hR.le hF')<|J_sr<|JS_as rfl<|JS_nt<|J_sr<|JS_as rfl<|JS_nt<|QG<|J_sr<|JS_mv rfl<|QA (Qi rfl Qd)<|JS_mv rfl<|JS_nt<|QX<|ZT (ι:={i:Nat // i≤l.length}) [(6,_),(7,_)] (fun i=>[(3,.int .i64 ((l.take i.1).sum)),(8,.int .i64 ((i.1:Nat):Int))]) (fun i=>l.length - i.1) (⟨0,Nat.zero_le _⟩) ⟨rfl,rfl,trivial⟩ ⟨rfl,rfl,trivial⟩ (fun i=>?_)
 simp only [List.cons_append,List.nil_append]
 have hi:=i.2
 have hs:=hp.sum i.1 hi
 refine J_sr<|QA (QU rfl rfl rfl)<|JS_nt<|QG ?_
 refine QP rfl (fun hc=>?_) (fun hc=>?_)
 ·
  have hlt:i.1<l.length:=by have:=dec_t hc;omega
  have he:=hp.el hlt
  refine QO<|QC<|QG<|QX<|J_sr<|QA (JK (n:=n) (i.1) (fun F hR=>(hR).1) rfl rfl Qd Qs (by omega))<|QA (JM (n:=n) ((i.1)*1) (fun F hR=>(hR).1) (by omega) rfl Qs (JJ (o:=l) (by omega)))<|JS_as rfl<|JS_nt<|QB<|JS_mv rfl<|JS_mv rfl<|QA (Qp rfl rfl (by omega))<|JS_as rfl<|QE<|Qk<|QC<|QB<|QA (Qp rfl rfl (by omega))<|JS_mv rfl<|QE ?_
  exact Ql (⟨i.1+1,hlt⟩) (by show l.length - (i.1+1)<l.length - i.1;omega) ⟨rfl,rfl,(congrArg (fun z:Int=>some (Value.int .i64 z)) (BH hlt).symm),rfl,trivial⟩ subl_r (fun F h=>h)
 ·
  have hge:i.1=l.length:=by have:=dec_f hc;omega
  refine Qy ?_
  repeat (first | refine QZ ?_ | refine QV (by rfl) ?_)
  refine Qa<|QC<|J_sr<|JS_mv rfl<|JS_as rfl<|JS_nt<|QS ?_
  exact F_r1 rfl rfl (congrArg (Value.int .i64) (by rw [List.take_of_length_le (by omega)])) (fun F hR=>trivial)
theorem qM {w:World} {F:Gs} {q:Option Addr} {n c:Nat} {l:List Int} (hF:Fits F w) (hR:Q4 F q n 1 (l.map Qx)) (hn:n≤1000000000):Qc Tryz.prog 215 [.slice q n c] w F (.int .i64 (Qm l)):=by
 have hln:l.length=n:=by have:=hR.1;simpa using this
 have em:l=l.map (fun x=>x):=by simp
 refine QT.intro (G:=fun F=>Q4 F q n 1 (l.map Qx)) Tryz.func215 rfl (by rfl) rfl rfl hF (fun F' hF'=>hR.le hF')<|J_sr<|JS_as rfl<|JS_nt<|J_sr<|JS_as rfl<|JS_nt<|QG<|J_sr<|JS_mv rfl<|QA (Qi rfl Qd)<|JS_mv rfl<|JS_nt<|QX<|ZT (ι:=Y3 l (fun x=>x)) [(3,_),(6,_),(7,_)] (fun i=>[(8,.int .i64 ((i.i:Nat):Int))]) (fun i=>l.length - i.i) (Y3.start _ _) ⟨rfl,rfl,rfl,trivial⟩ ⟨rfl,trivial⟩ (fun i=>?_)
 simp only [List.cons_append,List.nil_append]
 have hi:=i.le
 refine J_sr<|QA (QU rfl rfl rfl)<|JS_nt<|QG ?_
 refine QP rfl (fun hc=>?_) (fun hc=>?_)
 ·
  have hlt:i.i<l.length:=by have:=dec_t hc;omega
  refine QO<|QC<|QG<|QX<|J_sr<|QA (JK (n:=n) (i.i) (fun F hR=>hR) rfl rfl Qd Qs (by omega))<|QA (JM (n:=n) ((i.i)*1) (fun F hR=>hR) (by omega) rfl Qs (JJ (o:=l) (by omega)))<|JS_as rfl<|JS_nt<|J_sr<|JS_mv rfl<|JS_mv rfl<|QA (QU rfl rfl rfl)<|QE<|QC ?_
  refine QP rfl (fun hc=>?_) (fun hc=>?_)
  ·
   refine J_sr<|JS_mv rfl<|JS_as rfl<|JS_nt<|QS ?_
   repeat (first | refine JE ?_ | refine Q3 ?_)
   exact F_r1 rfl rfl (congrArg (Value.int .i64) (by rw [Xx hlt,Et l];exact i.hit hlt (by rw [← Xx hlt];simpa using hc))) (fun F hR=>trivial)
  ·
   refine QO<|Qk<|QC<|QB<|QA (Qp rfl rfl (by omega))<|JS_mv rfl<|QE ?_
   exact Ql (i.next hlt (by rw [← Xx hlt];simpa using hc)) (by show l.length - (i.i+1)<l.length - i.i;omega) ⟨rfl,rfl,rfl,rfl,trivial⟩ subl_r (fun F h=>h)
 ·
  have hge:l.length≤i.i:=by have:=dec_f hc;omega
  refine Qy ?_
  repeat (first | refine QZ ?_ | refine QV (by rfl) ?_)
  refine Qa<|QC<|J_sr<|JS_mv rfl<|JS_as rfl<|JS_nt<|QS ?_
  exact F_r1 rfl rfl (congrArg (Value.int .i64) (by rw [Et l];exact i.stop hge)) (fun F hR=>trivial)
structure yS (a b:List Int) where
 i:Nat
 la:i≤a.length
 lb:i≤b.length
 h:UP a b=UP (a.drop i) (b.drop i)
theorem yS.cons {a b:List Int} (s:yS a b) (ha:s.i<a.length) (hb:s.i<b.length):UP a b=if ZU (Qb a s.i) (Qb b s.i)≠0 then ZU (Qb a s.i) (Qb b s.i) else UP (a.drop (s.i+1)) (b.drop (s.i+1)):=by
 rw [s.h,J8 ha,J8 hb,UP]
theorem Sw {w:World} {F:Gs} {ra rb:Sr} {a b:List Int} (hF:Fits F w) (hA:JL F ra a) (hB:JL F rb b) (la:a.length≤1000000) (lb:b.length≤1000000):Qc Tryz.prog 218 [ra.v,rb.v] w F (.int .i64 (UP a b)):=by
 obtain ⟨q,n,c⟩:=ra
 obtain ⟨q',n',c'⟩:=rb
 have na:=hA.2.1
 have nb:=hB.2.1
 dsimp only [Sr.v] at na nb ⊢
 refine QT.intro (G:=fun F=>JL F ⟨q,n,c⟩ a∧JL F ⟨q',n',c'⟩ b) Tryz.func218 rfl (by rfl) rfl rfl hF (fun F' hF'=>⟨hA.le hF',hB.le hF'⟩)<|J_sr<|JS_as rfl<|JS_nt<|QG<|J_sr<|JS_mv rfl<|QA (Qi rfl Qd)<|JS_mv rfl<|JS_nt<|QX<|ZT (ι:=yS a b) [(0,_),(1,_),(9,_),(10,_)] (fun i=>[(11,.int .i64 ((i.i:Nat):Int))]) (fun i=>a.length - i.i) (⟨0,Nat.zero_le _,Nat.zero_le _,rfl⟩) ⟨rfl,rfl,rfl,rfl,trivial⟩ ⟨rfl,trivial⟩ (fun i=>?_)
 simp only [List.cons_append,List.nil_append]
 have hla:=i.la
 have hlb:=i.lb
 refine J_sr<|QA (QU rfl rfl rfl)<|JS_nt<|QG ?_
 refine QP rfl (fun hc=>?_) (fun hc=>?_)
 ·
  have hlt:i.i<a.length:=by have:=dec_t hc;omega
  refine QO<|QC<|QG<|QX<|J_sr<|JS_mv rfl<|QA (JK (n:=n) (i.i) (fun F h9=>(h9.1).1) rfl rfl Qd Qs (by omega))<|QA (JM (n:=n) ((i.i)*1) (fun F h9=>(h9.1).1) (by omega) rfl Qs (JJ (o:=a) (by omega)))<|JS_as rfl<|JS_as rfl<|JS_nt<|QG<|J_sr<|JS_mv rfl<|JS_mv rfl<|QA (Qi rfl Qd)<|QA (QU rfl rfl rfl)<|QE<|QC ?_
  refine QP rfl (fun hc=>?_) (fun hc=>?_)
  ·
   have hge2:b.length≤i.i:=by have:=dec_t hc;omega
   refine J_sr<|JS_as rfl<|JS_nt<|QS ?_
   repeat (first | refine JE ?_ | refine Q3 ?_)
   exact F_r1 rfl rfl (congrArg (Value.int .i64) (by rw [i.h,J8 hlt,List.drop_of_length_le hge2];rfl)) (fun F h9=>trivial)
  ·
   have hlt2:i.i<b.length:=by have:=dec_f hc;omega
   refine QO<|QC<|J_sr<|JS_mv rfl<|JS_mv rfl<|QA (JK (n:=n') (i.i) (fun F h9=>(h9.2).1) rfl rfl Qd Qs (by omega))<|QA (JM (n:=n') ((i.i)*1) (fun F h9=>(h9.2).1) (by omega) rfl Qs (JJ (o:=b) (by omega)))<|JS_as rfl<|JS_nt<|J_sr<|JS_mv rfl<|JS_mv rfl<|QH rfl (fun w F hF h9=>Bt hF ) (fun _=>JS_as rfl<|JS_nt<|J_sr<|JS_mv rfl<|QA (QU rfl rfl rfl)<|QE<|QC ?_)
   refine QP rfl (fun hc=>?_) (fun hc=>?_)
   ·
    refine J_sr<|JS_mv rfl<|JS_as rfl<|JS_nt<|QS ?_
    repeat (first | refine JE ?_ | refine Q3 ?_)
    exact F_r1 rfl rfl (congrArg (Value.int .i64) (by rw [i.cons hlt hlt2,if_pos (by rw [← E6];simpa using hc),E6])) (fun F h9=>trivial)
   ·
    refine QO<|Qk<|QC<|QB<|QA (Qp rfl rfl (by omega))<|JS_mv rfl<|QE ?_
    exact Ql (⟨i.i+1,hlt,hlt2,by rw [i.cons hlt hlt2,if_neg (by rw [← E6];simpa using hc)]⟩) (by show a.length - (i.i+1)<a.length - i.i;omega) ⟨rfl,rfl,rfl,rfl,rfl,trivial⟩ subl_r (fun F h=>h.1)
 ·
  have hge:a.length≤i.i:=by have:=dec_f hc;omega
  refine Qy ?_
  repeat (first | refine QZ ?_ | refine QV (by rfl) ?_)
  refine Qa<|QC<|QG<|J_sr<|JS_mv rfl<|QA (Qi rfl Qd)<|JS_mv rfl<|QA (Qi rfl Qd)<|QA (QU rfl rfl rfl)<|QE<|QC ?_
  refine QP rfl (fun hc=>?_) (fun hc=>?_)
  ·
   have hlt3:=dec_t hc
   refine J_sr<|JS_as rfl<|JS_nt<|QS ?_
   exact F_r1 rfl rfl (congrArg (Value.int .i64) (by rw [i.h,List.drop_of_length_le hge,J8 (l:=b) (k:=i.i) (by omega)];rfl)) (fun F h9=>trivial)
  ·
   have hlt3:=dec_f hc
   refine QO<|QC<|J_sr<|JS_as rfl<|JS_nt<|QS ?_
   exact F_r1 rfl rfl (congrArg (Value.int .i64) (by rw [i.h,List.drop_of_length_le hge,List.drop_of_length_le (by omega)];rfl)) (fun F h9=>trivial)
theorem Hm {w:World} {F:Gs} {ra rb:Sr} {a b:List Int} (hF:Fits F w) (hA:JL F ra a) (hB:JL F rb b) (pa:PW a) (pb:PW b):Qc Tryz.prog 136 [ra.v,rb.v] w F (.int .i64 (K8 a b)):=by
 have la:=pa.2
 have lb:=pb.2
 dsimp only [Sr.v]
 refine QT.intro (G:=fun F=>JL F ra a∧JL F rb b) Tryz.func136 rfl (by rfl) rfl rfl hF (fun F' hF'=>⟨hA.le hF',hB.le hF'⟩)<|J_sr<|JS_as rfl<|JS_nt<|J_sr<|JS_mv rfl<|QH rfl (fun w F hF h9=>DM hF (r:=rb) h9.2 (pb)) (fun _=>JS_mv rfl<|QH rfl (fun w F hF h9=>DM hF (r:=ra) h9.1.1 (pa)) (fun _=>QH rfl (fun w F hF h9=>Bt hF ) (fun _=>?_)))
 rw [E6]
 refine JS_mv rfl<|JS_mv rfl<|QH rfl (fun w F hF h9=>Sw hF (ra:=rb) (rb:=ra) h9.1.1.1.2 (h9.1.1.1.1) (by omega) (by omega)) (fun _=>QW rfl (Q7 Qd) Qs Vj rfl rfl (fun b13=>QH rfl (fun w F hF h9=>qM hF (Q4.of (cs:=List.map Qx [ZU b.sum a.sum,UP b a]) h9.2 rfl) (by decide)) (fun _=>JS_as rfl<|JS_nt<|QS ?_)))
 exact F_r1 rfl rfl (rfl) (fun F h9=>trivial)
end
section
open Go.RowKit Ig
def XN {κ:Type} (K:κ→Value):List (κ×Value)→Nat→List MapEntry
 |[],_=>[]
 |x::l,i=>⟨K x.1,x.2,i⟩::XN K l (i+1)
def X5 {κ:Type} (K:κ→Value) (l:List (κ×Value)):Obj:=.map (XN K l 0).toArray l.length
def Zt {κ:Type} [DecidableEq κ]:List (κ×Value)→κ→Nat→Option (Nat×Value)
 |[],_,_=>none
 |x::l,k,i=>if k=x.1 then some (i,x.2) else Zt l k (i+1)
def BQ {κ:Type} [DecidableEq κ]:List (κ×Value)→κ→Value→List (κ×Value)
 |[],k,v=>[(k,v)]
 |x::l,k,v=>if k=x.1 then(k,v)::l else x::BQ l k v
structure SP (P:Program) (kt:TypeId) {κ:Type} [DecidableEq κ] (K:κ→Value):Prop where
 kT:∀ e w k,(Instr.checkKey e 10000 kt (K k)).run P w = .ok () w
 find:∀ w k (l:List (κ×Value)),(Instr.findKey kt (K k) (XN K l 0)).run P w = .ok (Zt l k 0) w
 same:∀ k,Instr.sameBits 10000 (K k) (K k)=true
section
variable {κ:Type} {K:κ→Value}
theorem DX:∀ (l:List (κ×Value)) i,(XN K l i).length=l.length
 |[],_=>rfl
 |_::l,i=>by simp [XN,DX l]
theorem NW:∀ (l:List (κ×Value)) i k v,XN K (l++[(k,v)]) i=XN K l i++[⟨K k,v,i+l.length⟩]
 |[],i,k,v=>by simp [XN]
 |x::l,i,k,v=>by
  simp only [List.cons_append,XN,NW l,List.length_cons]
  rw [show i+1+l.length=i+(l.length+1) from by omega]
theorem V4:∀ (l:List (κ×Value)) (i j:Nat),(XN K l i)[j]?=l[j]?.map fun x=>(⟨K x.1,x.2,i+j⟩:MapEntry)
 |[],_,_=>by simp [XN]
 |x::l,i,0=>by simp [XN]
 |x::l,i,j+1=>by
  simp only [XN,List.getElem?_cons_succ,V4 l]
  rw [show i+1+j=i+(j+1) from by omega]
theorem P4:∀ (l:List (κ×Value)) i j k v,XN K (l.set j (k,v)) i=(XN K l i).modify j fun e=>{ e with key:=K k,val:=v }
 |[],_,_,_,_=>by simp [XN]
 |x::l,i,0,k,v=>by simp [XN]
 |x::l,i,j+1,k,v=>by simp [XN,P4 l]
theorem Hs:∀ (l:List (κ×Value)) i,∀ e∈XN K l i,i≤e.born∧e.born<i+l.length
 |[],_,e,h=>by cases h
 |x::l,i,e,h=>by
  simp only [XN,List.mem_cons] at h
  rcases h with rfl | h
  ·simp
  ·have:=Hs l (i+1) e h
   simp only [List.length_cons];omega
theorem EE:∀ (l:List (κ×Value)) i,((XN K l i).map (·.born)).Nodup
 |[],_=>List.nodup_nil
 |x::l,i=>by
  simp only [XN,List.map_cons]
  refine List.nodup_cons.2 ⟨fun h=>?_,EE l (i+1)⟩
  obtain ⟨e,he,h⟩:=List.mem_map.1 h
  have:=(Hs l (i+1) e he).1
  omega
variable [DecidableEq κ]
theorem Hr:∀ {l:List (κ×Value)} {k i j v},Zt l k i=some (j,v)→i≤j∧j - i<l.length∧l[j - i]?=some (k,v)
 |[],_,_,_,_,h=>by cases h
 |x::l,k,i,j,v,h=>by
  simp only [Zt] at h
  split at h
  ·rename_i e
   cases h
   subst e
   simp
  ·obtain ⟨h1,h2,h3⟩:=Hr h
   refine⟨by omega,by simp only [List.length_cons];omega,?_⟩
   rw [show j - i=(j - (i+1))+1 from by omega,List.getElem?_cons_succ];exact h3
theorem Pf:∀ {l:List (κ×Value)} {k v i},Zt l k i=none→BQ l k v=l++[(k,v)]
 |[],_,_,_,_=>rfl
 |x::l,k,v,i,h=>by
  simp only [Zt] at h
  split at h
  ·cases h
  ·rename_i e
   simp only [BQ,if_neg e,List.cons_append,Pf h]
theorem Pe:∀ {l:List (κ×Value)} {k v i j u},Zt l k i=some (j,u)→BQ l k v=l.set (j - i) (k,v)
 |[],_,_,_,_,_,h=>by cases h
 |x::l,k,v,i,j,u,h=>by
  simp only [Zt] at h
  split at h
  ·rename_i e
   cases h
   simp [BQ,e]
  ·rename_i e
   have:=(Hr h).1
   simp only [BQ,if_neg e,Pe h]
   rw [show j - i=(j - (i+1))+1 from by omega];rfl
end
theorem Up (a b:List UInt8):Instr.sameNow .string (tx a) (tx b)=some (decide (a=b)):=by
 show some ((⟨a.toArray⟩:ByteArray)==⟨b.toArray⟩)=_
 congr 1
 rw [Bool.eq_iff_iff,decide_eq_true_iff,MapKept.bytes_beq]
 constructor
 ·intro h;cases h;rfl
 ·intro h;rw [h]
theorem NT (k:List UInt8):∀ (l:List (List UInt8×Value)) (i n:Nat),Instr.findNow .string (tx k) (XN tx l n) i=some (Zt l k i)
 |[],_,_=>rfl
 |x::l,i,n=>by
  simp only [XN,Instr.findNow,Up,Zt]
  by_cases h:k=x.1
  ·simp [h]
  ·simp [h,NT k l]
theorem SP.str {P:Program} {kt:TypeId} (h:P.underlying kt=some .string):SP P kt tx where
 kT:=fun e w k=>MapKept.run_checkKey (k:=tx k) h (by simp [MapKept.IsKey,tx]) e 9999
 find:=fun w k l=>MapKept.run_findKey h (NT k l 0 0)
 same:=fun k=>by
  show(ByteArray.mk k.toArray==ByteArray.mk k.toArray)=true
  rw [MapKept.bytes_beq]
def kf (P:Program) (T:TypeId):Option Value:=match P.info? T with
 |some i=>i.zero
 |none=>none
theorem Cq {P:Program} {T:TypeId} {z:Value} (h:kf P T=some z) (w:World):(zeroValue T).run P w = .ok z w:=by
 unfold kf at h
 split at h
 ·rename_i i hi
  simp [zeroValue,typeInfo,hi,h]
 ·cases h
def TV (P:Program) (T kt et:TypeId):Bool:=match P.underlying T with | some (.map k e)=>Nat.beq k kt&&Nat.beq e et | _=>false
theorem Rv {P:Program} {T kt et:TypeId} (h:TV P T kt et=true):P.underlying T=some (.map kt et):=by
 unfold TV at h
 split at h
 ·rename_i e
  simp only [Bool.and_eq_true] at h
  have h1:=Nat.eq_of_beq_eq_true h.1
  have h2:=Nat.eq_of_beq_eq_true h.2
  rw [e,h1,h2]
 ·cases h
section
variable [Dr] [df:Df] {P:Program} {Q:Exit→Act→World→Prop} {N:Nat} {m:Sl} {E E0:Env} {ops:Array Oper} {l:List Oper} {w0:World} {F0:Gs} {bs:List (Nat×Obj)} {G:Gs→Prop} {d:Nat} {ty:TypeId} {pos:String} {aft:Array Edge}
theorem VS {κ:Type} (K:κ→Value) {T:TypeId} (k:∀ b,JS P ops Q l N ((d,.map (some b))::m) ⟨w0,F0,(b,X5 K [])::bs,G⟩) (hd:J4 N (some d)=true:=by rfl) :
  JS P ops Q (⟨some d,.makeMap T none,ty,pos,aft,none⟩::l) N m ⟨w0,F0,bs,G⟩:=fun a w ha hw=>by
 have hrun:(execOp a.eval ⟨some d,.makeMap T none,ty,pos,aft,none⟩).run P w = .ok (.value (.map (some w.heap.size))) (w.alloc (.map #[] 0)):=by
  simp [execOp,Instr.makeMap]
 exact wpList_plain rfl fun Kk hK=>upon_value hrun (hK _ _ (k _ _ _ (ha.put hd _) (hw.alloc _ (fun c fr e=>by cases e))))
variable {κ:Type} [DecidableEq κ] {K:κ→Value} {kv:List (κ×Value)} {b:Nat} {f:Obj→List (Nat×Obj)}
theorem S9 {T kt et:TypeId} {x y:Operand} {k:κ} {i:Nat} {v:Value} (hq:SP P kt K) (hx:ev m x=some (.map (some b))) (hy:ev m y=some (K k)) (ht:TV P T kt et=true) (ho:Own bs b (X5 K kv) f) (hf:Zt kv k 0=some (i,v)) :
  Qt P N m (St ⟨w0,F0,bs,G⟩) (.lookup T x y true) ty (.tuple #[v,.bool true]):=fun a w _ _ _ _ ha hw=>by
 have hb:=hw.own ho
 unfold X5 at hb
 have hu:=Rv ht
 simp [execOp,ha.ev hx,ha.ev hy,Instr.lookup,run_underlying hu,MapKept.run_getObj_map hb,hq.kT,hq.find,hf]
theorem Pb {T kt et:TypeId} {x y:Operand} {k:κ} {z:Value} (hq:SP P kt K) (hx:ev m x=some (.map (some b))) (hy:ev m y=some (K k)) (ht:TV P T kt et=true) (hz:kf P et=some z) (ho:Own bs b (X5 K kv) f) (hf:Zt kv k 0=none) :
  Qt P N m (St ⟨w0,F0,bs,G⟩) (.lookup T x y true) ty (.tuple #[z,.bool false]):=fun a w _ _ _ _ ha hw=>by
 have hb:=hw.own ho
 unfold X5 at hb
 have hu:=Rv ht
 simp [execOp,ha.ev hx,ha.ev hy,Instr.lookup,run_underlying hu,MapKept.run_getObj_map hb,hq.kT,hq.find,hf,Cq hz]
theorem Gm {T kt et:TypeId} {x y z:Operand} {k:κ} {v:Value} (hq:SP P kt K) (hx:ev m x=some (.map (some b))) (hy:ev m y=some (K k)) (hz:ev m z=some v) (ht:TV P T kt et=true) (ho:Own bs b (X5 K kv) f)
  (kk:JS P ops Q l N m ⟨w0,F0,f (X5 K (BQ kv k v)),G⟩):JS P ops Q (⟨none,.mapUpdate T x y z,ty,pos,aft,none⟩::l) N m ⟨w0,F0,bs,G⟩:=fun a w ha hw=>by
 have hb:=hw.own ho
 obtain ⟨pre,post,e1,e2⟩:=ho.split
 subst e1
 rw [e2] at kk
 have hu:=Rv ht
 have hb':=hb
 unfold X5 at hb'
 have hrun:(execOp a.eval ⟨none,.mapUpdate T x y z,ty,pos,aft,none⟩).run P w = .ok .skip { w with heap:=w.heap.setIfInBounds b (X5 K (BQ kv k v)) }:=by
  cases hf:Zt kv k 0 with
  |none =>
   have e:X5 K (BQ kv k v) = .map ((XN K kv 0).toArray.push ⟨K k,v,kv.length⟩) (kv.length+1):=by
    rw [Pf hf];simp [X5,NW]
   rw [e]
   simp [execOp,ha.ev hx,ha.ev hy,ha.ev hz,Instr.mapUpdate,run_underlying hu,MapKept.run_getObj_map hb',hq.kT,hq.find,hf,MapKept.run_setObj_map _ hb']
  |some r =>
   obtain ⟨i,u⟩:=r
   obtain ⟨_,h2,h3⟩:=Hr hf
   rw [Nat.sub_zero] at h2 h3
   have e:X5 K (BQ kv k v) = .map ((XN K kv 0).toArray.modify i fun e=>{ e with key:=K k,val:=v }) kv.length:=by
    rw [Pe hf]
    unfold X5
    rw [Nat.sub_zero,P4,List.length_set]
    congr 1
    apply Array.ext'
    simp
   have hk:((((XN K kv 0).toArray[i]?).map (·.key)).getD (K k))=K k:=by
    simp [V4,h3]
   rw [e]
   simp only [execOp,ha.ev hx,ha.ev hy,ha.ev hz,Instr.mapUpdate,Sem.run_bind,run_underlying hu,MapKept.run_getObj_map hb',hq.kT,hq.find,hf,Result.andThen_ok,hk,Instr.keyThatStays,hq.same,if_true,Sem.run_pure,MapKept.run_setObj_map _ hb']
 exact wpList_plain rfl fun Kk hK=>upon_skip hrun (hK _ _ (kk _ _ ha (hw.write pre ⟨rfl,rfl,rfl,rfl,rfl⟩ (fun c fr e=>by cases e))))
def zS (kv:List (κ×Value)) (K:κ→Value):Option Nat→Array Value
 |some j=>match kv[j]? with
  |some p=>#[.bool true,K p.1,p.2]
  |none=>#[.bool true]
 |none=>#[.bool false]
def vf (seen:List Nat):Option Nat→List Nat
 |some j=>seen++[j]
 |none=>seen
def uS (n:Nat) (seen:List Nat):Option Nat→Prop
 |some j=>j<n∧j∉seen
 |none=>∀ j,j<n→j∈seen
omit [DecidableEq κ] in
theorem xE (x:Option Nat):(zS kv K x)[0]?=some (.bool x.isSome):=by
 cases x with
 |none=>rfl
 |some j =>
  simp only [zS]
  cases kv[j]?<;>rfl
def FD (b n:Nat) (seen:List Nat):Obj:=.mapIter (some b) n seen.toArray n
omit [DecidableEq κ] in
theorem ET {T kt et:TypeId} {x:Operand} (hx:ev m x=some (.map (some b))) (ht:TV P T kt et=true) (ho:Own bs b (X5 K kv) f) (k:∀ r,JS P ops Q l N ((d,.pointer (some ⟨r,0,none⟩))::m) ⟨w0,F0,(r,FD b kv.length [])::bs,G⟩) (hd:J4 N (some d)=true:=by rfl) :
  JS P ops Q (⟨some d,.range T x,ty,pos,aft,none⟩::l) N m ⟨w0,F0,bs,G⟩:=fun a w ha hw=>by
 have hb:=hw.own ho
 unfold X5 at hb
 have hrun:(execOp a.eval ⟨some d,.range T x,ty,pos,aft,none⟩).run P w = .ok (.value (.pointer (some ⟨w.heap.size,0,none⟩))) (w.alloc (FD b kv.length [])):=by
  simp [execOp,ha.ev hx,run_range_map w T kt et b _ _ (Rv ht) hb,FD]
 exact wpList_plain rfl fun Kk hK=>upon_value hrun (hK _ _ (k _ _ _ (ha.put hd _) (hw.alloc _ (fun c fr e=>by cases e))))
omit [DecidableEq κ] in
theorem Np {x:Operand} {r:Nat} {seen:List Nat} {g:Obj→List (Nat×Obj)} (hx:ev m x=some (.pointer (some ⟨r,0,none⟩))) (hr:Own bs r (FD b kv.length seen) g) (ho:Own bs b (X5 K kv) f)
  (k:∀ x,uS kv.length seen x→JS P ops Q l N ((d,.tuple (zS kv K x))::m) ⟨w0,F0,g (FD b kv.length (vf seen x)),G⟩) (hd:J4 N (some d)=true:=by rfl) :
  JS P ops Q (⟨some d,.next x false,ty,pos,aft,none⟩::l) N m ⟨w0,F0,bs,G⟩:=fun a w ha hw=>by
 have hb:=hw.own ho
 have hi:=hw.own hr
 unfold X5 at hb
 obtain ⟨pre,post,e1,e2⟩:=hr.split
 subst e1
 simp only [e2] at k
 have hold:∀ e∈(XN K kv 0).toArray.toList,e.born<kv.length:=fun e he=>by have:=(Hs kv 0 e (by simpa using he)).2;omega
 rcases run_next_at (P:=P) w ty r b kv.length kv.length seen.toArray (XN K kv 0).toArray kv.length hi hb hold (Nat.le_refl _) with ⟨h0,hn⟩ | ⟨e,he,w1,hw1,hn⟩
 ·have hrun:(execOp a.eval ⟨some d,.next x false,ty,pos,aft,none⟩).run P w = .ok (.value (.tuple (zS kv K none))) w:=by
   simp [execOp,ha.ev hx,hn,zS]
  refine wpList_plain rfl fun Kk hK=>upon_value hrun (hK _ _ (k none (fun j hj=>?_) _ _ (ha.put hd _) hw))
  have hm:(⟨K kv[j].1,kv[j].2,j⟩:MapEntry)∈XN K kv 0:=by
   have:=V4 (K:=K) kv 0 j
   rw [List.getElem?_eq_getElem hj,Nat.zero_add] at this
   exact List.mem_of_getElem? this
  have hz:leftOf (XN K kv 0).toArray seen.toArray=#[]:=Array.eq_empty_of_size_eq_zero h0
  unfold leftOf at hz
  rw [Array.filter_eq_empty_iff] at hz
  have:=hz _ (by simpa using hm)
  simpa using this
 ·unfold leftOf at he
  simp only [List.mem_toArray,Array.mem_toList_iff,Array.mem_filter] at he
  obtain ⟨hm,hs⟩:=he
  obtain ⟨j,hj,hje⟩:=List.getElem_of_mem hm
  rw [DX] at hj
  have hg:=V4 (K:=K) kv 0 j
  rw [List.getElem?_eq_getElem hj,List.getElem?_eq_getElem (by rw [DX];exact hj),hje,Nat.zero_add] at hg
  have hg':e=⟨K kv[j].1,kv[j].2,j⟩:=by simpa using hg
  subst hg'
  have hrun:(execOp a.eval ⟨some d,.next x false,ty,pos,aft,none⟩).run P w = .ok (.value (.tuple (zS kv K (some j)))) (ChangeMaps.setBlock w1 r (FD b kv.length (vf seen (some j)))):=by
   simp [execOp,ha.ev hx,hn,zS,hj,FD,vf]
  have hw2:St ⟨w0,F0,pre++(r,FD b kv.length seen)::post,G⟩ w1:=by
   rcases hw1 with rfl | rfl
   ·exact hw
   ·exact hw.drew
  exact wpList_plain rfl fun Kk hK=>upon_value hrun (hK _ _ (k (some j) ⟨hj,by simpa using hs⟩ _ _ (ha.put hd _) (hw2.write pre ⟨rfl,rfl,rfl,rfl,rfl⟩ (fun c fr e=>by cases e))))
omit [DecidableEq κ] in
theorem Az {x:Operand} {r j:Nat} {seen:List Nat} {p:κ×Value} {g:Obj→List (Nat×Obj)} (hx:ev m x=some (.pointer (some ⟨r,0,none⟩))) (hr:Own bs r (FD b kv.length (seen++[j])) g) (ho:Own bs b (X5 K kv) f) (hj:kv[j]?=some p) :
  Qt P N m (St ⟨w0,F0,bs,G⟩) (.entry x) ty (.tuple #[K p.1,p.2]):=fun a w _ _ _ _ ha hw=>by
 have hb:=hw.own ho
 have hi:=hw.own hr
 unfold X5 at hb
 have hg:=V4 (K:=K) kv 0 j
 rw [hj,Nat.zero_add] at hg
 have hmem:=List.mem_of_getElem? hg
 have:=run_entry_at (P:=P) w r b kv.length seen.toArray (XN K kv 0).toArray kv.length ⟨K p.1,p.2,j⟩ (by rw [hi];simp [FD]) hb (by simpa using hmem) (by simpa using EE kv 0)
 simp [execOp,ha.ev hx,this]
end
end
section
open Go.RowKit Ig
theorem IJ (l:List Int) (x:Int):Yf (l++[x])=(Yf l++Lib.itoa x)++[32]:=by unfold Yf;rw [List.flatMap_append];simp
theorem Pz {x:Int} (h:0≤x∧x≤1000000):(Lib.itoa x).length≤21:=Lib.itoa_length_le x (by omega) (by omega)
theorem Tk:∀ {l:List Int},(∀ x∈l,0≤x∧x≤1000000)→(Yf l).length≤22*l.length
 |[],_=>by simp [Yf]
 |x::l,h=>by
  have h1:=Pz (h x (by simp))
  have h2:=Tk (l:=l) (fun y hy=>h y (by simp [hy]))
  rw [V1]
  simp only [List.length_append,List.length_cons]
  change (X0 x).length≤21 at h1
  omega
structure uy (b:Nat) (l:List Int) where
 i:Nat
 ob:List (Nat×Obj)
 le:i≤l.length
 bl:UT b (Yf (l.take i)) ob
theorem OH {w:World} {F:Gs} {r:Sr} {l:List Int} (hF:Fits F w) (hGl:JC F) (hR:JL F r l) (hp:PW l):Qc Tryz.prog 252 [r.v] w F (tx (Yf l)):=by
 obtain ⟨q,n,c⟩:=r
 have hln:=hR.2.1
 dsimp only [Sr.v] at hln ⊢
 have hl1:=hp.2
 refine QT.intro (G:=fun F=>JC F∧JL F ⟨q,n,c⟩ l) Tryz.func252 rfl (by rfl) rfl rfl hF (fun F' hF'=>⟨hGl.le hF',hR.le hF'⟩)<|J_sr<|JS_as rfl<|JS_nt<|J_sr<|Qf ji (fun b3=>JS_nt<|QG<|J_sr<|JS_mv rfl<|QA (Qi rfl Qd)<|JS_mv rfl<|JS_nt<|QX<|Jw (ι:=uy b3 l) [(3,_),(6,_),(7,_)] (fun i=>[(8,.int .i64 ((i.i:Nat):Int))]) (fun i=>i.ob++[]) (fun i F=>True) (fun i=>l.length - i.i) (⟨0,_,Nat.zero_le _,by rw [List.take_zero];exact .fresh⟩) ⟨rfl,rfl,rfl,trivial⟩ ⟨rfl,trivial⟩ subl_r (fun _ _=>trivial) (fun i=>?_))
 have hi:=i.le
 have hkl:=Tk (l:=l.take i.i) (fun x hx=>hp.1 x (List.mem_of_mem_take hx))
 rw [List.length_take] at hkl
 refine J_sr<|QA (QU rfl rfl rfl)<|JS_nt<|QG ?_
 refine QP rfl (fun hc=>?_) (fun hc=>?_)
 ·
  have hlt:i.i<l.length:=by have:=dec_t hc;omega
  have he:=hp.el hlt
  have hil:=Pz he
  refine QO<|QC<|QG<|QX<|J_sr<|QA (JK (n:=n) (i.i) (fun F h9=>(h9.1.2).1) rfl rfl Qd Qs (by omega))<|QA (JM (n:=n) ((i.i)*1) (fun F h9=>(h9.1.2).1) (by omega) rfl Qs (JJ (o:=l) (by omega)))<|JS_as rfl<|JS_nt<|J_sr<|JS_mv rfl<|QH rfl (fun w F hF h9=>Om hF h9.1.1 ((by omega)) ((by omega))) (fun _=>XL rfl (List.Perm.refl _) (Vk i.bl (by omega)) (fun jk=>JH _ (fun w F hF h=>h.2) (fun hbl=>JS_nt<|QB<|XL rfl (List.Perm.refl _) (SZ (c:=32) hbl (by rw [List.length_append];omega)) (fun wob2=>JH _ (fun w F hF h=>h.2) (fun hbl2=>?_)))))
  rw [← IJ,Xx hlt,← X4 hlt] at hbl2
  refine QE<|Qk<|QC<|QB<|QA (Qp rfl rfl (by omega))<|JS_mv rfl<|QE ?_
  exact Ql (⟨i.i+1,wob2,hlt,hbl2⟩) (by show l.length - (i.i+1)<l.length - i.i;omega) ⟨rfl,rfl,rfl,rfl,trivial⟩ subl_r (fun F h=>⟨h.1.1.1.1,trivial⟩)
 ·
  have hge:i.i=l.length:=by have:=dec_f hc;omega
  refine Qy ?_
  repeat (first | refine QZ ?_ | refine QV (by rfl) ?_)
  refine Qa<|QC<|QG<|QB ?_
  have hbl:=i.bl
  rw [hge,List.take_length] at hbl
  refine EU (v:=tx (Yf l)) hF rfl (enters_of Tryz.func281 (by rfl) rfl) (fun w' hw'=>Tryz.Builder_String_any w.heap.size b3 (Yf l) w' (hbl.is hw') (by obtain ⟨F',h'⟩:=hw';exact h'.ext.size))<|JS_as rfl<|JS_nt<|QS ?_
  exact F_r1 rfl rfl (rfl) (fun _ _=>trivial)
end
end Go.Proofs.YtknegjaeoffnbaaGreatDoor
namespace Ig
def Hu:List Tm→Tm→List Tm
 |[],n=>[n]
 |t::l,n=>if n.2=t.2 then n::l else t::Hu l n
theorem RI:∀ (l:List Tm) (n:Tm),∀ k,k∈(Hu l n).map (·.2)→k=n.2∨k∈l.map (·.2)
 |[],n,k,h=>by simp [Hu] at h;exact .inl h
 |t::l,n,k,h=>by
  simp only [Hu] at h
  split at h
  ·simp only [List.map_cons,List.mem_cons] at h ⊢;rcases h with h | h
   ·exact .inl h
   ·exact .inr (.inr h)
  ·simp only [List.map_cons,List.mem_cons] at h ⊢;rcases h with h | h
   ·exact .inr (.inl h)
   ·rcases RI l n k h with h | h
    ·exact .inl h
    ·exact .inr (.inr h)
theorem Nk:∀ {l:List Tm} (n:Tm),(l.map (·.2)).Nodup→((Hu l n).map (·.2)).Nodup
 |[],n,_=>by simp [Hu]
 |t::l,n,h=>by
  simp only [List.map_cons] at h
  obtain ⟨h1,h2⟩:=List.nodup_cons.1 h
  simp only [Hu]
  split
  ·rename_i e
   simp only [List.map_cons];rw [e];exact h
  ·rename_i e
   simp only [List.map_cons]
   refine List.nodup_cons.2 ⟨fun hm=>?_,Nk n h2⟩
   rcases RI l n _ hm with g | g
   ·exact e g.symm
   ·exact h1 g
theorem RD:∀ {l:List Tm} (n:Tm),(l.map (·.2)).Nodup→∀ k,Jf (Hu l n) k=if n.2=k then n.1 else Jf l k
 |[],n,_,k=>by simp [Hu,Jf,Rat.add_zero]
 |t::l,n,h,k=>by
  simp only [List.map_cons] at h
  obtain ⟨h1,h2⟩:=List.nodup_cons.1 h
  have hz:Jf l t.2=0:=Y7 fun x hx e=>h1 (e ▸ List.mem_map_of_mem (f:=(·.2)) hx)
  simp only [Hu]
  split
  ·rename_i e
   simp only [Jf]
   by_cases g:n.2=k
   ·have g2:t.2=k:=e ▸ g
    rw [if_pos g,if_pos g,← g2,hz,Rat.add_zero]
   ·have g2:¬ t.2=k:=fun q=>g (e.trans q)
    rw [if_neg g,if_neg g,if_neg g2]
  ·rename_i e
   simp only [Jf]
   rw [RD n h2 k]
   by_cases g:n.2=k
   ·have g2:¬ t.2=k:=fun q=>e (g.trans q.symm)
    rw [if_pos g,if_neg g2,if_pos g,Rat.zero_add]
   ·rw [if_neg g,if_neg g]
structure Iv (T l:List Tm):Prop where
 nd:(T.map (·.2)).Nodup
 eq:Yz T l
theorem Iv.nil:Iv [] []:=⟨List.nodup_nil,Yz.refl _⟩
theorem Iv.add {T l:List Tm} (h:Iv T l) (f:Rat) (p:List Int):Iv (Hu T (f+Jf T p,p)) (l++[(f,p)]) :=
 ⟨Nk _ h.nd,fun k=>by
  rw [RD _ h.nd,Zv,← h.eq k]
  simp only [Jf]
  by_cases g:p=k
  ·rw [if_pos g,if_pos g,g,Rat.add_zero];exact Rat.add_comm _ _
  ·rw [if_neg g,if_neg g,Rat.add_zero,Rat.add_zero]⟩
theorem Iv.Bv {T l:List Tm} (h:Iv T l) {t:Tm} (ht:t∈T):Jf T t.2=t.1:=by
 have key:∀ {T:List Tm},(T.map (·.2)).Nodup→t∈T→Jf T t.2=t.1:=by
  intro T
  induction T with
  |nil=>intro _ h;cases h
  |cons x T ih =>
   intro hn hm
   simp only [List.map_cons] at hn
   obtain ⟨h1,h2⟩:=List.nodup_cons.1 hn
   rcases List.mem_cons.1 hm with rfl | hm
   ·simp only [Jf]
    have hz:Jf T t.2=0:=Y7 fun x hx e=>h1 (e ▸ List.mem_map_of_mem (f:=(·.2)) hx)
    rw [if_pos trivial,hz,Rat.add_zero]
   ·simp only [Jf]
    have:¬ x.2=t.2:=fun e=>h1 (e ▸ List.mem_map_of_mem (f:=(·.2)) hm)
    rw [if_neg this,ih h2 hm,Rat.zero_add]
 exact key h.nd ht
theorem RC {T:List Tm} {p:List Int} (h:p∉T.map (·.2)):Jf T p=0:=Y7 fun x hx e=>h (e ▸ List.mem_map_of_mem (f:=(·.2)) hx)
theorem Iv.norm {T l s:List Tm} (h:Iv T l) (hp:s.Perm (T.filter fun t=>decide (t.1≠0))) (hs:s.Pairwise fun x y=>before x.2 y.2=true):s=JQ l:=by
 refine TN ⟨hs,fun t ht=>?_⟩ ((Yz.perm hp).trans ((eqv_filter T).trans h.eq))
 have:=(hp.mem_iff).1 ht
 simpa using (List.mem_filter.1 this).2
end Ig
namespace Go.Proofs.YtknegjaeoffnbaaGreatDoor
section
open Go.RowKit Ig
structure XT where
 x:Fr
 r:Sr
 t:Tm
instance :Inhabited XT:=⟨⟨⟨⟨0,none,0,0⟩,⟨0,none,0,0⟩⟩,⟨none,0,0⟩,(0,[])⟩⟩
def YY (t:XT):List Value:=[.int .i64 t.x.n.s,.slice t.x.n.q t.x.n.n t.x.n.cap,.int .i64 t.x.d.s,.slice t.x.d.q t.x.d.n t.x.d.cap,.slice t.r.q t.r.n t.r.cap]
@[reducible] def U9 (t:XT):Value:=.agg #[.int .i64 t.x.n.s,.slice t.x.n.q t.x.n.n t.x.n.cap,.int .i64 t.x.d.s,.slice t.x.d.q t.x.d.n t.x.d.cap,.slice t.r.q t.r.n t.r.cap]
theorem YE (t:XT):(YY t).length=5:=rfl
def SY (F:Gs) (t:XT):Prop:=JV F t.x t.t.1∧JL F t.r t.t.2
theorem SY.le {F F':Gs} {t:XT} (h:SY F t) (k:Gs.le F F'):SY F' t:=⟨h.1.le k,h.2.le k⟩
def VY (F:Gs) (ts:List XT):Prop:=∀ t∈ts,SY F t
theorem VY.le {F F':Gs} {ts:List XT} (h:VY F ts) (k:Gs.le F F'):VY F' ts:=fun t ht=>(h t ht).le k
def Wa (ts:List XT):List (List UInt8×Value):=ts.map fun t=>(Yf t.t.2,U9 t)
def JG (ts:List XT):List Tm:=ts.map (·.t)
def addN:List XT→XT→List XT
 |[],n=>[n]
 |t::l,n=>if n.t.2=t.t.2 then n::l else t::addN l n
theorem Sg:∀ (ts:List XT) (n:XT),JG (addN ts n)=Hu (JG ts) n.t
 |[],n=>rfl
 |t::l,n=>by
  have ih:=Sg l n
  unfold JG at ih ⊢
  simp only [addN,List.map_cons,Hu]
  split
  ·simp
  ·simp [ih]
theorem NH:∀ (ts:List XT) (n:XT),Wa (addN ts n)=BQ (Wa ts) (Yf n.t.2) (U9 n)
 |[],n=>rfl
 |t::l,n=>by
  have ih:=NH l n
  unfold Wa at ih ⊢
  simp only [addN,List.map_cons,BQ]
  by_cases h:n.t.2=t.t.2
  ·rw [if_pos h,if_pos (congrArg Yf h)];simp
  ·rw [if_neg h,if_neg fun e=>h (Ba e)];simp [ih]
theorem ND {ts:List XT} {n x:XT} (h:x∈addN ts n):x=n∨x∈ts:=by
 induction ts with
 |nil=>simp [addN] at h;exact .inl h
 |cons t l ih =>
  simp only [addN] at h
  split at h
  ·rcases List.mem_cons.1 h with h | h
   ·exact .inl h
   ·exact .inr (List.mem_cons_of_mem _ h)
  ·rcases List.mem_cons.1 h with h | h
   ·exact .inr (h ▸ List.mem_cons_self)
   ·rcases ih h with h | h
    ·exact .inl h
    ·exact .inr (List.mem_cons_of_mem _ h)
theorem xT:∀ (ts:List XT) (p:List Int) (i:Nat),(Zt (Wa ts) (Yf p) i=none∧p∉(JG ts).map (·.2))∨∃ j,∃ t∈ts,t.t.2=p∧Zt (Wa ts) (Yf p) i=some (j,U9 t)
 |[],_,_=>.inl ⟨rfl,by simp [JG]⟩
 |t::l,p,i=>by
  by_cases h:p=t.t.2
  ·exact .inr ⟨i,t,List.mem_cons_self,h.symm,by show(if _ then _ else _)=_;rw [if_pos (congrArg Yf h)]⟩
  ·rcases xT l p (i+1) with ⟨h1,h2⟩ | ⟨j,u,hu,h1,h2⟩
   ·refine .inl ⟨?_,?_⟩
    ·show(if _ then _ else _)=_
     rw [if_neg fun e=>h (Ba e)];exact h1
    ·simp only [JG,List.map_cons,List.mem_cons,not_or];exact⟨h,h2⟩
   ·refine .inr ⟨j,u,List.mem_cons_of_mem _ hu,h1,?_⟩
    show(if _ then _ else _)=_
    rw [if_neg fun e=>h (Ba e)];exact h2
def ZV (l:List Tm):Nat:=(l.map fun t=>JO t.1+1).sum
theorem XV (l m:List Tm):ZV (l++m)=ZV l+ZV m:=by unfold ZV;rw [List.map_append,List.sum_append]
theorem BF:∀ (l:List Tm) (k:List Int),JO (Jf l k)≤ZV l+1
 |[],k=>by show JO (0:Rat)≤_;decide
 |t::l,k=>by
  have h1:=BF l k
  simp only [Jf]
  have h2:=Vc (if t.2=k then t.1 else 0) (Jf l k)
  have h3:JO (if t.2=k then t.1 else 0)≤JO t.1+1:=by
   split
   ·omega
   ·have:JO (0:Rat)≤1:=by decide
    omega
  have e:ZV (t::l)=JO t.1+1+ZV l:=by unfold ZV;rw [List.map_cons,List.sum_cons]
  have h4:JO (Jf (t::l) k)≤ZV l+1+(JO t.1+1):=by
   simp only [Jf]
   by_cases g:t.2=k
   ·rw [if_pos g] at h2 ⊢
    omega
   ·rw [if_neg g,Rat.zero_add];omega
  rw [e]
  simp only [Jf] at h4
  omega
structure K4 (ts:List XT) (l:List Tm):Prop where
 UO:Iv (JG ts) l
 pw:∀ t∈ts,PW t.t.2
 ln:ts.length≤l.length
theorem K4.nil:K4 [] []:=⟨Iv.nil,(fun _ h=>by cases h),Nat.le_refl _⟩
theorem CE (ts:List XT) (n:XT):(addN ts n).length≤ts.length+1:=by
 induction ts with
 |nil=>exact Nat.le_refl _
 |cons t l ih =>
  simp only [addN]
  split<;>simp only [List.length_cons]<;>omega
theorem K4.add {ts:List XT} {l:List Tm} (h:K4 ts l) {f:Rat} {p:List Int} (hp:PW p) {n:XT} (hn:n.t=(f+Jf (JG ts) p,p)):K4 (addN ts n) (l++[(f,p)]) :=
 ⟨by rw [Sg,hn];exact h.UO.add f p,fun t ht=>by
  rcases ND ht with rfl | ht
  ·rw [hn];exact hp
  ·exact h.pw t ht,by have:=CE ts n;have:=h.ln;rw [List.length_append];simp only [List.length_singleton];omega⟩
theorem K4.sz {ts:List XT} {l:List Tm} (h:K4 ts l) {t:XT} (ht:t∈ts):JO t.t.1≤ZV l+1:=by
 rw [← h.UO.Bv (List.mem_map_of_mem (f:=XT.t) ht),h.UO.eq];exact BF _ _
theorem NB:TV Tryz.prog 227 9 165=true:=by kernel_rfl
theorem R3:SP Tryz.prog 9 tx:=.str (by kernel_rfl)
theorem Co:kf Tryz.prog 165=some (.agg #[.int .i64 0,.slice none 0 0,.int .i64 0,.slice none 0 0,.slice none 0 0]):=by kernel_rfl
end
end Go.Proofs.YtknegjaeoffnbaaGreatDoor
