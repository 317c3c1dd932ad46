/- Steps of the proof of the theorem in the last file. -/
import Derived.Test.YtknegjaeoffnbaaGreatDoorP3
import Derived.RangeFuncLeaves
import Derived.RangeFuncSeq
import Derived.OwnWalkIn
import Derived.OrdersIn
import Derived.ChangeKeysEq
set_option linter.all false
namespace Go.Proofs.YtknegjaeoffnbaaGreatDoor
section
open Go.RowKit Ig
def Fa (v:Nat) (t:Tm):List Tm:=if 0<Qf t.2 v then [(t.1*((Qf t.2 v:Int):Rat),t.2.set v (Qf t.2 v - 1))] else []
def Kn (v:Nat) (l:List Tm):List Tm:=l.flatMap (Fa v)
structure gj (v:Nat) (ps:List XZ) where
 i:Nat
 ts:List XZ
 le:i≤ps.length
 hI:VB ts (Kn v (JK (ps.take i)))
theorem Rb {v:Nat} {ps:List XZ} {i:Nat} (h:i<ps.length):Kn v (JK (ps.take (i+1)))=Kn v (JK (ps.take i))++Fa v (el ps i).t:=by
 rw [Xw h];unfold Kn;rw [List.flatMap_append];simp
theorem xH (v:Nat) (ps:List XZ) (i:Nat):Zm (Kn v (JK (ps.take i)))≤Zm (Kn v (JK ps)):=by
 have e:JK ps=JK (ps.take i)++JK (ps.drop i):=by unfold JK;rw [← List.map_append,List.take_append_drop]
 have h:Zm (Kn v (JK ps))=Zm (Kn v (JK (ps.take i)++JK (ps.drop i))):=by rw [← e]
 unfold Kn at h ⊢
 rw [List.flatMap_append,Xl] at h;omega
theorem PW.set {l:List Int} (h:PW l) {v:Nat} (hk:0<Qf l v):PW (l.set v (Qf l v - 1)):=by
 refine⟨fun x hx=>?_,by rw [List.length_set];exact h.2⟩
 rcases List.mem_or_eq_of_mem_set hx with hx | rfl
 ·exact h.1 x hx
 ·by_cases hv:v<l.length
  ·have:=h.el hv;omega
  ·have:Qf l v=0:=by simp [Qf,List.getD];intro h;exact absurd h hv
   omega
theorem Rt {x:Int} (h:0≤x∧x≤1000000):sz x≤64:=Nat.le_trans (KU (b:=1000000) (by omega)) (by decide)
theorem N4 (v:Nat) (l:List Tm):(Kn v l).length≤l.length:=by
 unfold Kn
 induction l with
 |nil=>simp
 |cons t l ih =>
  rw [List.flatMap_cons,List.length_append,List.length_cons]
  have:(Fa v t).length≤1:=by unfold Fa;split<;>simp
  omega
theorem CN {w:World} {F:Gs} {p:W8} {v:Nat} (hF:Fits F w) (hGl:JF F) (hP:Jo F p.1 p.2 (JK p.2)) (hp:∀ t∈p.2,PW t.t.2∧v<t.t.2.length) (hl:p.2.length≤100000) (hzt:∀ t∈p.2,JQ t.t.1≤20000000) (hz:Zm (Kn v (JK p.2))≤40000000) :
  QT Tryz.prog 138 [p.1.v,.int .i64 (v:Nat)] w F (fun(c:W8)=>c.1.v) (fun c F=>Jo F c.1 c.2 (XK (Kn v (JK p.2)))):=by
 have hpn:=hP.2.2.2.2
 dsimp only [Sr.v]
 refine QT.intro (G:=fun F=>JF F∧Jo F p.1 p.2 (JK p.2)) Tryz.func138 rfl (by rfl) rfl rfl hF (fun F' hF'=>⟨hGl.le hF',hP.le hF'⟩)<|QG<|QB<|QA (QE rfl)<|QF<|QC<|QG<|QB ?_
 refine Vj tx (fun m=>?_)
 refine QA (QE rfl)<|QF<|QC<|QG<|QG<|QB<|QA (QD rfl)<|QA (Qn rfl J3)<|QA (QD rfl)<|QF<|QC<|Qa ?_
 refine J0 (ι:=gj v p.2) [(1,_),(5,_),(11,_),(12,_)] (fun i=>[(13,.int .i64 ((i.i:Nat):Int))]) (fun i=>[(m,ZA tx (W5 i.ts))]) (fun i F=>Vo F i.ts) (fun i=>p.2.length - i.i) (⟨0,[],Nat.zero_le _,VB.nil⟩) ⟨rfl,rfl,rfl,rfl,trivial⟩ ⟨rfl,trivial⟩ (List.Sublist.refl _) (fun _ _ _ h=>by cases h) (fun i=>?_)
 simp only [List.cons_append,List.nil_append]
 have hi:=i.le
 refine QG<|QB<|QA (QU rfl rfl rfl)<|QF<|QC<|QG ?_
 refine QQ rfl (fun hc=>?_) (fun hc=>?_)
 ·
  have hlt:i.i<p.2.length:=by have:=of_decide_eq_true hc;omega
  have htm:=Je hlt
  have hp1:=hp _ htm
  have hra:=(hP.2.1 _ htm).2.2.1
  have hdl:=xH v p.2 i.i
  have hzz:=hzt _ htm
  have hb1:=hp1.1.el hp1.2
  have hl2:=hp1.1.2
  refine QP<|QC<|QG<|Qa<|QG<|QB<|QA (JY (n:=p.1.n) (i.i) (fun F ⟨⟨hGl,hP⟩,hT⟩=>(hP).1) rfl rfl J3 Ji (by omega))<|QA (X9 (n:=p.1.n) (vs:=[.int .i64 (el p.2 (i.i)).x.n.s,.slice (el p.2 (i.i)).x.n.q (el p.2 (i.i)).x.n.n (el p.2 (i.i)).x.n.cap,.int .i64 (el p.2 (i.i)).x.d.s,.slice (el p.2 (i.i)).x.d.q (el p.2 (i.i)).x.d.n (el p.2 (i.i)).x.d.cap,.slice (el p.2 (i.i)).r.q (el p.2 (i.i)).r.n (el p.2 (i.i)).r.cap]) ((i.i)*5) (fun F ⟨⟨hGl,hP⟩,hT⟩=>(hP).1) (by omega) rfl Ji rfl (fun j v hv=>XW (f:=Yv) (l:=p.2) Yb (by omega) hv)) ?_
  refine QZ Zh (fun b7=>?_)
  refine QS (vs:=[_,_,_,_,_]) rfl rfl rfl Ji rfl .here (.here (.here (.here (.here (.here .nil))))) ⟨rfl,rfl,rfl,rfl,rfl,trivial⟩<|QF<|QC<|QG<|QB<|QA (QI rfl ZB Qs)<|QA (Qi rfl Qs .here (.skip (.skip (.skip (.skip (.here .nil))))))<|QA (QD rfl)<|QA (JY (n:=(el p.2 i.i).r.n) (v) (fun F ⟨⟨hGl,hP⟩,hT⟩=>((hP.2.1 _ htm).2).1) rfl rfl Qe Qp (by omega))<|QA (Jf (n:=(el p.2 i.i).r.n) ((v)*1) (fun F ⟨⟨hGl,hP⟩,hT⟩=>((hP.2.1 _ htm).2).1) (by omega) rfl Qp (JL (o:=(el p.2 i.i).t.2) (by omega)))<|QA (QE rfl)<|QF<|QC<|QG<|QB<|QA (QD rfl)<|QA (QU rfl rfl rfl)<|QF<|QC ?_
  refine QQ rfl (fun hc=>?_) (fun hc=>?_)
  ·
   have hkp:=of_decide_eq_true hc
   refine QG<|QB<|QA (QI rfl ZB Qs)<|QA (Qi rfl Qs .here (.skip (.skip (.skip (.skip (.here .nil)))))) ?_
   refine XQ rfl (List.Perm.refl _) (S0 (r:=(el p.2 i.i).r) (l:=(el p.2 i.i).t.2) (fun F ⟨⟨hGl,hP⟩,hT⟩=>(hP.2.1 _ htm).2) hra (by omega)) (fun c26=>?_)
   refine JJ _ (fun w F hF h=>h.2) (fun h26=>?_)
   obtain ⟨v26,ob26⟩:=c26
   dsimp only at h26 ⊢
   obtain ⟨bb,cap,rest,rfl,rfl,e1,e2,e3,e4⟩:=Q7.pos h26 (by omega)
   refine QA (QE rfl)<|QF<|QC<|QG<|QB<|QA (QD rfl)<|QA (QD rfl)<|QA (Qx (i:=v) rfl rfl Qe Qp (by omega))<|QA (Ya (c:=((el p.2 i.i).t.2).map Q3++rest) (T':=3) rfl Qp (.there (.there .here)) (Zo (by first | omega | (simp only [List.length_set];omega))))<|QA (Jx rfl rfl (by omega))<|QA (Qx (i:=v) rfl rfl Qe Qp (by omega))<|QS (vs:=[_]) rfl rfl rfl Qp rfl (.there (.there .here)) (VT (by first | omega | (simp only [List.length_set];omega)) ((Qf ((el p.2 i.i).t.2) (v) - 1))) ⟨rfl,trivial⟩<|QF<|QC ?_
   obtain ⟨r,hv,hrn,hrc,hfix⟩:=Q7.fix (w0:=w) (F0:=F) (bs1:=[(b7,.cells (Yv (el p.2 i.i)).toArray 165 (0,0)),(m,ZA tx (W5 i.ts))]) (G:=_) (Q7.some (T:=3) (sz:=1) (b:=bb) (n:=(el p.2 i.i).r.n) (cap:=cap) (l:=((el p.2 i.i).t.2.set v (Qf (el p.2 i.i).t.2 v - 1)).map Q3) (rest:=rest) (by simpa using e1) (by simpa using e2) e3 e4)
   refine AF hfix ?_
   rw [hv]
   refine JG (.cons_cons _ (.cons _ .slnil)) mixed (by kernel_rfl)<|QK (QD rfl)<|QK (QI rfl YF Qg)<|QK (QJ (vs:=[_,_,_,_]) rfl Qg .here (.here (.here (.here (.here .nil)))) rfl)<|QK (QD rfl) ?_
   refine QY rfl (fun w F hF ⟨⟨⟨⟨hGl,hP⟩,hT⟩,_⟩,hrow⟩=>vY hF (by omega) (by omega)) (fun x37=>?_)
   refine QY rfl (fun w F hF ⟨⟨⟨⟨⟨hGl,hP⟩,hT⟩,_⟩,hrow⟩,⟨h37,h37_⟩⟩=>Km hF ((hP.2.1 _ htm).1) ⟨by assumption,by assumption⟩ (by omega) (by have h2:=Gi (Qf (el p.2 i.i).t.2 v);have h3:sz (Qf (el p.2 i.i).t.2 v)≤64:=Rt hb1;omega)) (fun x38=>?_)
   refine QK (QD rfl) ?_
   refine AK rfl (List.Perm.swap _ _ _) (BU (r:=r) (x:=x38) i.hI (hp1.1.set hkp) (by have h1:=Jz (el p.2 i.i).t.1 ((Qf (el p.2 i.i).t.2 v:Int):Rat);have h2:=Gi (Qf (el p.2 i.i).t.2 v);have h3:sz (Qf (el p.2 i.i).t.2 v)≤64:=Rt hb1;omega) (by omega) (fun F ⟨⟨⟨⟨⟨⟨hGl,hP⟩,hT⟩,_⟩,hrow⟩,⟨h37,h37_⟩⟩,⟨h38,h38_⟩⟩=>⟨hGl,hT,⟨h38,h38_⟩,by rw [hrn];exact hrow,by rw [hrn,List.length_set];exact hra,by rw [hrn];exact hrc⟩)) (fun n w h=>St.imp h (.cons _ (List.Sublist.refl _)) (fun F h=>h.1.1.1)) (fun n40=>?_)
   refine G7 _ (fun w F hF h=>h.2.2) (fun h40=>?_)
   have hI2:VB (addN i.ts n40) (Kn v (JK (p.2.take (i.i+1)))):=by
    rw [Rb hlt,show Fa v (el p.2 i.i).t=[((el p.2 i.i).t.1*((Qf (el p.2 i.i).t.2 v:Int):Rat),(el p.2 i.i).t.2.set v (Qf (el p.2 i.i).t.2 v - 1))] from if_pos hkp]
    exact i.hI.add (hp1.1.set hkp) h40
   refine Q2<|Ql<|QC<|QB<|QA (Qu rfl rfl (by omega))<|QA (QD rfl)<|QF ?_
   exact Qo (⟨i.i+1,addN i.ts n40,hlt,hI2⟩) (by show p.2.length - (i.i+1)<p.2.length - i.i;omega) ⟨rfl,rfl,rfl,rfl,rfl,trivial⟩ (.cons_cons _ (.cons _ .slnil)) (fun F h=>⟨h.1.1.1.1.1.1,h.2.1⟩)
  ·
   have hkp:=of_decide_eq_false hc
   refine QP<|Ql<|QC<|QB<|QA (Qu rfl rfl (by omega))<|QA (QD rfl)<|QF ?_
   exact Qo (⟨i.i+1,i.ts,hlt,by rw [Rb hlt,show Fa v (el p.2 i.i).t=[] from if_neg hkp,List.append_nil];exact i.hI⟩) (by show p.2.length - (i.i+1)<p.2.length - i.i;omega) ⟨rfl,rfl,rfl,rfl,rfl,trivial⟩ (.cons _ (List.Sublist.refl _)) (fun F h=>⟨h.1,h.2⟩)
 ·
  have hge:i.i=p.2.length:=by have:=of_decide_eq_false hc;omega
  refine Q5 ?_
  repeat (first | refine Qc ?_ | refine QX (by rfl) ?_)
  refine Qd<|QC<|QG<|QB<|QA (QD rfl) ?_
  have hI:=i.hI
  rw [hge,List.take_length] at hI
  refine XQ rfl (List.Perm.refl _) (Gk hI (by have h1:=hI.ln;have h2:=N4 v (JK p.2);rw [KO] at h2;omega) (fun F h=>h.2)) (fun c43=>?_)
  refine QA (QE rfl)<|QF<|QC<|QR ?_
  exact QN (c43) rfl (.tmp rfl .nil) (rfl) (fun F h=>h.2)
end
section
open Go.RowKit Ig
def vE (v n:Int):Int:=if decide (v<0)=true∨decide (v>n)=true then 10 else 0
theorem vb {v n:Int} (h:decide (v<0)=true):vE v n=if true=true then 10 else 0:=by unfold vE;rw [if_pos (Or.inl h)];rfl
theorem vc {v n:Int} (h:decide (v<0)=false):vE v n=if decide (v>n)=true then 10 else 0:=by unfold vE;rw [h];simp
theorem xk {v n:Int} (h:vE v n=0):0≤v∧v≤n:=by
 unfold vE at h
 simp only [decide_eq_true_eq] at h
 split at h<;>omega
def kB (a:VK) (n v:Int) (l:List Tm):Int:=if Qm [WR [a] n,vE v n]=0 then Di l else Qm [WR [a] n,vE v n]
def kA (a:VK) (n v:Int) (l:List Tm):Pt:=if Qm [WR [a] n,vE v n]=0 then PU l else []
theorem Y6.wide {p:Pt} {v:Int} (h:Y6 p v):∀ t∈JN p,(t.2.length:Int)=v+1:=fun t ht=>by
 unfold JN at ht
 obtain ⟨x,hx,rfl⟩:=List.mem_map.1 ht
 exact(VN (h.term x hx)).1
theorem Na {v:Nat} {l:List Tm} {x:Tm} (h:x∈Kn v l):∃ t∈l,0<Qf t.2 v∧x=(t.1*((Qf t.2 v:Int):Rat),t.2.set v (Qf t.2 v - 1)):=by
 unfold Kn at h
 obtain ⟨t,ht,h⟩:=List.mem_flatMap.1 h
 unfold Fa at h
 split at h
 ·rename_i g;rw [List.mem_singleton] at h;exact⟨t,ht,g,h⟩
 ·cases h
theorem IQ {v:Nat} {l:List Tm} (h:∀ t∈l,JQ t.1≤2400∧PW t.2∧v<t.2.length):∀ x∈Kn v l,JQ x.1≤2500:=fun x hx=>by
 obtain ⟨t,ht,_,rfl⟩:=Na hx
 obtain ⟨h1,h2,h3⟩:=h t ht
 have h4:=Jz t.1 ((Qf t.2 v:Int):Rat)
 have h5:=Gi (Qf t.2 v)
 have h6:=Rt (h2.el h3)
 dsimp only;omega
theorem Sv {w:World} {F:Gs} {a:VK} {n v:Int} (hF:Fits F w) (hGl:JF F) (hA:YX F [a]) (ht:∀ e∈[a],Vn e) :
  QT Tryz.prog 41 [a.1.v,.int .i64 n,.int .i64 v] w F (fun(c:VK)=>.tuple #[c.1.v,.int .i64 (kB a n v (XK (Kn v.toNat (JN (XJ a.2)))))]) (fun c F=>Vm F c.1 c.2 (kA a n v (XK (Kn v.toNat (JN (XJ a.2)))))):=by
 have ha:a∈[a]:=by simp
 dsimp only [Sr.v]
 refine QT.intro (G:=fun F=>JF F∧YX F [a]) Tryz.func41 rfl (by rfl) rfl rfl hF (fun F' hF'=>⟨hGl.le hF',hA.le hF'⟩)<|QG<|QB<|QA (QE rfl)<|QA (QE rfl)<|QF<|QC<|QG<|QG<|QB<|QA (QD rfl)<|QA (QD rfl)<|QW rfl (Q8 EI) Ms zU rfl rfl (fun b11=>QH rfl (fun w F hF ⟨⟨hGl,hA⟩,hs11⟩=>BE hF hGl (JB.of (n:=1) (sz:=1) (cs:=[a].map fun e=>e.1.v) hs11 rfl) (hA) (rfl) (by decide) (ht)) (fun _=>QA (QD rfl)<|QA (QU rfl rfl rfl)<|QA (QD rfl) ?_))
 refine Qk (t:=15) rfl (fun hb15=>?_) (fun hb15=>?_)
 ·
  have hve:=vb (n:=n) hb15
  refine QO rfl rfl rfl<|QO rfl rfl rfl<|QO rfl rfl rfl<|QA (Qj rfl rfl rfl)<|QH rfl (fun w F hF ⟨⟨⟨hGl,hA⟩,hs11⟩,_⟩=>Zz hF ) (fun _=>QW rfl (Q8 Zq) KC BI rfl rfl (fun b21=>QH rfl (fun w F hF ⟨⟨⟨⟨⟨hGl,hA⟩,hs11⟩,_⟩,_⟩,hs21⟩=>YE hF (JB.of (cs:=List.map Q3 [WR [a] n,vE v n]) (by rw [hve];exact hs21) rfl) (by decide)) (fun _=>QA (QE rfl)<|QF<|QC<|QG<|QB<|QA (QD rfl)<|QA (QU rfl rfl rfl)<|QF<|QC ?_)))
  refine QQ rfl (fun hc=>?_) (fun hc=>?_)
  ·
   have hc0:=bne_iff_ne.1 hc
   refine QG<|QB<|QA (QD rfl)<|QA (QE rfl)<|QA (QE rfl)<|QF<|QC<|QR ?_
   exact Jb ((⟨none,0,0⟩,[])) rfl (.tmp rfl (.tmp rfl .nil)) (by unfold kB;rw [if_neg hc0]) (fun F ⟨⟨⟨⟨⟨⟨hGl,hA⟩,hs11⟩,_⟩,_⟩,hs21⟩,_⟩=>by unfold kA;rw [if_neg hc0];exact Vm.nil F)
  ·
   have hc0:=bne_eq_false_iff_eq.1 hc
   obtain ⟨hc1,hc2⟩:=VY hc0
   obtain ⟨hn,hok⟩:=MP hc1
   have hv:=xk hc2
   obtain ⟨k,rfl⟩:=Int.eq_ofNat_of_zero_le hv.1
   rw [Int.toNat_natCast]
   have oa:=hok a ha
   have sa:=oa.Zm
   have hpa:∀ t∈JN (XJ a.2),PW t.2∧k<t.2.length:=fun t ht=>⟨oa.pw hn.2 t ht,by have:=oa.wide t ht;omega⟩
   have la:(JN (XJ a.2)).length≤64:=by unfold JN;rw [List.length_map];exact oa.len
   have hds:=IQ (v:=k) (l:=JN (XJ a.2)) fun t ht=>⟨oa.sz t ht,hpa t ht⟩
   have hdl:=N4 k (JN (XJ a.2))
   have hdz:=Dd hds
   have hdz2:=Nat.mul_le_mul_right 2501 (Nat.le_trans hdl la)
   have hpn:=NT (l:=Kn k (JN (XJ a.2))) fun t ht=>by
    obtain ⟨y,hy,hk,e⟩:=Na ht
    rw [e];exact(hpa y hy).1.set hk
   have hln:=WM (Kn k (JN (XJ a.2)))
   refine QP<|QC<|QG<|QB<|QA (QD rfl)<|QH rfl (fun w F hF ⟨⟨⟨⟨⟨⟨hGl,hA⟩,hs11⟩,_⟩,_⟩,hs21⟩,_⟩=>Vs hF hGl (a:=a) (hA a ha).1 (hA a ha).2 (ht a ha) oa hn) (fun c27=>JJ _ (fun w F hF h=>And.intro h.2.2.2.1 h.2.len) (fun h27p=>?_))
   obtain ⟨e27,l27⟩:=h27p
   refine QA (QD rfl)<|QH rfl (fun w F hF ⟨⟨⟨⟨⟨⟨⟨hGl,hA⟩,hs11⟩,_⟩,_⟩,hs21⟩,_⟩,h27⟩=>CN hF hGl (p:=c27) (v:=k) (by rw [e27];exact h27) (XL (Q:=fun t=>PW t.2∧k<t.2.length) e27 hpa) (by omega) (XL (Q:=fun t=>JQ t.1≤20000000) e27 (fun t ht=>by have:=oa.sz t ht;omega)) (by rw [e27];omega)) (fun c29=>JJ _ (fun w F hF h=>And.intro h.2.2.2.1 h.2.len) (fun h29p=>?_))
   obtain ⟨e29,l29⟩:=h29p
   rw [e27] at e29 l29
   refine QH rfl (fun w F hF ⟨⟨⟨⟨⟨⟨⟨⟨hGl,hA⟩,hs11⟩,_⟩,_⟩,hs21⟩,_⟩,h27⟩,h29⟩=>GJ hF (q:=c29.1.q) (n:=c29.1.n) (cap:=c29.1.cap) (ts:=c29.2) (by rw [e29];rw [e27] at h29;exact h29) hGl (XL (Q:=fun t=>PW t.2) e29 hpn) (XL (Q:=fun t=>JQ t.1≤100000000) e29 (fun t ht=>Nat.le_trans (Dc ht) (by omega))) (by omega)) (fun c30=>?_)
   rw [e29]
   refine QA (QM rfl rfl)<|QA (QM rfl rfl)<|QA (QE rfl)<|QA (QE rfl)<|QF<|QC<|QR ?_
   exact Jb (c30) rfl (.tmp rfl (.tmp rfl .nil)) (by unfold kB;rw [if_pos hc0];rfl) (fun F ⟨⟨⟨⟨⟨⟨⟨⟨⟨hGl,hA⟩,hs11⟩,_⟩,_⟩,hs21⟩,_⟩,h27⟩,h29⟩,h30⟩=>by unfold kA;rw [if_pos hc0];exact h30)
 ·
  have hve:=vc (n:=n) hb15
  refine QL rfl rfl<|QA (QD rfl)<|QL rfl rfl<|QA (QD rfl)<|QL rfl rfl<|QA (QU rfl rfl rfl)<|QA (Qh rfl rfl rfl)<|QH rfl (fun w F hF ⟨⟨⟨hGl,hA⟩,hs11⟩,_⟩=>Zz hF ) (fun _=>QW rfl (Q8 Zq) KC BI rfl rfl (fun b21=>QH rfl (fun w F hF ⟨⟨⟨⟨⟨hGl,hA⟩,hs11⟩,_⟩,_⟩,hs21⟩=>YE hF (JB.of (cs:=List.map Q3 [WR [a] n,vE v n]) (by rw [hve];exact hs21) rfl) (by decide)) (fun _=>QA (QE rfl)<|QF<|QC<|QG<|QB<|QA (QD rfl)<|QA (QU rfl rfl rfl)<|QF<|QC ?_)))
  refine QQ rfl (fun hc=>?_) (fun hc=>?_)
  ·
   have hc0:=bne_iff_ne.1 hc
   refine QG<|QB<|QA (QD rfl)<|QA (QE rfl)<|QA (QE rfl)<|QF<|QC<|QR ?_
   exact Jb ((⟨none,0,0⟩,[])) rfl (.tmp rfl (.tmp rfl .nil)) (by unfold kB;rw [if_neg hc0]) (fun F ⟨⟨⟨⟨⟨⟨hGl,hA⟩,hs11⟩,_⟩,_⟩,hs21⟩,_⟩=>by unfold kA;rw [if_neg hc0];exact Vm.nil F)
  ·
   have hc0:=bne_eq_false_iff_eq.1 hc
   obtain ⟨hc1,hc2⟩:=VY hc0
   obtain ⟨hn,hok⟩:=MP hc1
   have hv:=xk hc2
   obtain ⟨k,rfl⟩:=Int.eq_ofNat_of_zero_le hv.1
   rw [Int.toNat_natCast]
   have oa:=hok a ha
   have sa:=oa.Zm
   have hpa:∀ t∈JN (XJ a.2),PW t.2∧k<t.2.length:=fun t ht=>⟨oa.pw hn.2 t ht,by have:=oa.wide t ht;omega⟩
   have la:(JN (XJ a.2)).length≤64:=by unfold JN;rw [List.length_map];exact oa.len
   have hds:=IQ (v:=k) (l:=JN (XJ a.2)) fun t ht=>⟨oa.sz t ht,hpa t ht⟩
   have hdl:=N4 k (JN (XJ a.2))
   have hdz:=Dd hds
   have hdz2:=Nat.mul_le_mul_right 2501 (Nat.le_trans hdl la)
   have hpn:=NT (l:=Kn k (JN (XJ a.2))) fun t ht=>by
    obtain ⟨y,hy,hk,e⟩:=Na ht
    rw [e];exact(hpa y hy).1.set hk
   have hln:=WM (Kn k (JN (XJ a.2)))
   refine QP<|QC<|QG<|QB<|QA (QD rfl)<|QH rfl (fun w F hF ⟨⟨⟨⟨⟨⟨hGl,hA⟩,hs11⟩,_⟩,_⟩,hs21⟩,_⟩=>Vs hF hGl (a:=a) (hA a ha).1 (hA a ha).2 (ht a ha) oa hn) (fun c27=>JJ _ (fun w F hF h=>And.intro h.2.2.2.1 h.2.len) (fun h27p=>?_))
   obtain ⟨e27,l27⟩:=h27p
   refine QA (QD rfl)<|QH rfl (fun w F hF ⟨⟨⟨⟨⟨⟨⟨hGl,hA⟩,hs11⟩,_⟩,_⟩,hs21⟩,_⟩,h27⟩=>CN hF hGl (p:=c27) (v:=k) (by rw [e27];exact h27) (XL (Q:=fun t=>PW t.2∧k<t.2.length) e27 hpa) (by omega) (XL (Q:=fun t=>JQ t.1≤20000000) e27 (fun t ht=>by have:=oa.sz t ht;omega)) (by rw [e27];omega)) (fun c29=>JJ _ (fun w F hF h=>And.intro h.2.2.2.1 h.2.len) (fun h29p=>?_))
   obtain ⟨e29,l29⟩:=h29p
   rw [e27] at e29 l29
   refine QH rfl (fun w F hF ⟨⟨⟨⟨⟨⟨⟨⟨hGl,hA⟩,hs11⟩,_⟩,_⟩,hs21⟩,_⟩,h27⟩,h29⟩=>GJ hF (q:=c29.1.q) (n:=c29.1.n) (cap:=c29.1.cap) (ts:=c29.2) (by rw [e29];rw [e27] at h29;exact h29) hGl (XL (Q:=fun t=>PW t.2) e29 hpn) (XL (Q:=fun t=>JQ t.1≤100000000) e29 (fun t ht=>Nat.le_trans (Dc ht) (by omega))) (by omega)) (fun c30=>?_)
   rw [e29]
   refine QA (QM rfl rfl)<|QA (QM rfl rfl)<|QA (QE rfl)<|QA (QE rfl)<|QF<|QC<|QR ?_
   exact Jb (c30) rfl (.tmp rfl (.tmp rfl .nil)) (by unfold kB;rw [if_pos hc0];rfl) (fun F ⟨⟨⟨⟨⟨⟨⟨⟨⟨hGl,hA⟩,hs11⟩,_⟩,_⟩,hs21⟩,_⟩,h27⟩,h29⟩,h30⟩=>by unfold kA;rw [if_pos hc0];exact h30)
end
section
open Go.RowKit Ig
def y6 (F:Gs) (xs:List (Fr×Rat)):Prop:=∀ p∈xs,Jc F p.1 p.2
theorem y6.le {F F':Gs} {xs:List (Fr×Rat)} (h:y6 F xs) (k:Gs.le F F'):y6 F' xs:=fun p hp=>(h p hp).le k
def gC (xs:List (Fr×Rat)):List Value:=xs.flatMap fun p=>C8 p.1
structure vH (ss:List (List UInt8)) where
 i:Nat
 xs:List (Fr×Rat)
 le:i≤ss.length
 hx:xs.map (·.2)=(ss.take i).map JM
theorem vH.len {ss:List (List UInt8)} (s:vH ss):s.xs.length=s.i:=by
 have:=congrArg List.length s.hx
 have h:=s.le
 simp only [List.length_map,List.length_take] at this;omega
end
section
open Go.RowKit Ig
def dG (c:Rat) (xs:List Rat) (ks:List Int) (i:Nat):Rat:=(List.range i).foldl (fun a j=>a*(el xs j)^(Qf ks j).toNat) c
structure dm (n:Nat) where
 i:Nat
 x:Fr
 le:i≤n
structure dn (n:Nat) where
 j:Nat
 y:Fr
 le:j≤n
instance :Inhabited Fr:=⟨⟨⟨0,none,0,0⟩,⟨1,none,0,0⟩⟩⟩
instance :Inhabited (Fr×Rat):=⟨(default,0)⟩
end
section
open Go.RowKit Ig
theorem FM {l:List Int} (h:Qm l=0):∀ x∈l,x=0:=by
 induction l with
 |nil=>intro x hx;cases hx
 |cons a l ih =>
  intro x hx
  unfold Qm at h
  by_cases g:a=0
  ·rw [if_pos g] at h
   rcases List.mem_cons.1 hx with rfl | hx
   ·exact g
   ·exact ih h x hx
  ·rw [if_neg g] at h;exact absurd h g
end
section
open Go.RowKit Ig
end
section
open Go.RowKit Ig
end
section
open Go.RowKit Ig
def TX (s:List UInt8×List UInt8):List Value:=[tx s.1,tx s.2]
def qC (ss:List (List UInt8×List UInt8)):List Rat:=ss.flatMap fun s=>[JM s.1,JM s.2]
theorem Po {B:Nat}:∀ (l:List Rat) (s:Rat×Rat),JQ s.1≤B→JQ s.2≤B→(∀ x∈l,JQ x≤B)→JQ (l.foldl Yz s).1≤B∧JQ (l.foldl Yz s).2≤B
 |[],s,h1,h2,_=>⟨h1,h2⟩
 |x::l,s,h1,h2,h=>by
  have hx:=h x (by simp)
  exact Po l (Yz s x) (by unfold Yz;dsimp only;split<;>assumption) (by unfold Yz;dsimp only;split<;>assumption) fun y hy=>h y (by simp [hy])
structure vF (ss:List (List UInt8×List UInt8)) where
 i:Nat
 v:Value
 ob:List (Nat×Obj)
 xs:List (Fr×Rat)
 le:i≤ss.length
 hr:Q7 130 4 v (i*2) (gC xs) ob
 hx:xs.map (·.2)=qC (ss.take i)
theorem Ll (ss:List (List UInt8×List UInt8)):(qC ss).length=ss.length*2:=by
 unfold qC
 induction ss with
 |nil=>rfl
 |cons s l ih=>rw [List.flatMap_cons,List.length_append,ih];simp only [List.length_cons,List.length_nil];omega
theorem vF.len {ss:List (List UInt8×List UInt8)} (s:vF ss):s.xs.length=s.i*2:=by
 have:=congrArg List.length s.hx
 have h:=s.le
 rw [Ll] at this
 simp only [List.length_map,List.length_take] at this;omega
end
section
open Go.RowKit Ig
structure yy (a b:List Int) where
 i:Nat
 le:i≤a.length
 h:a.take i=b.take i
structure vP (a b:List Int) where
 i:Nat
 le:i≤a.length
 h:Zv a b=Zv (a.drop i) (b.drop i)
theorem yy.next {a b:List Int} (s:yy a b) (h1:s.i<a.length) (h2:s.i<b.length) (e:Qf a s.i=Qf b s.i):a.take (s.i+1)=b.take (s.i+1):=by
 rw [ZJ h1,ZJ h2,s.h,← Xn h1,← Xn h2,e]
theorem vP.step {a b:List Int} (s:vP a b) (h1:s.i<a.length) (h2:s.i<b.length):Zv a b=(decide (Qf b s.i<Qf a s.i)||(decide (Qf a s.i=Qf b s.i)&&Zv (a.drop (s.i+1)) (b.drop (s.i+1)))):=by
 rw [s.h,XB h1,XB h2];rfl
theorem Tk {w:World} {F:Gs} {q q2:Option Addr} {n c n2 c2:Nat} {a b:List Int} (hF:Fits F w) (hA:JP F ⟨q,n,c⟩ a) (hB:JP F ⟨q2,n2,c2⟩ b) (la:a.length≤1000000):QV Tryz.prog 140 [.slice q n c,.slice q2 n2 c2] w F (.bool (decide (a=b))):=by
 have na:=hA.2.1
 have nb:=hB.2.1
 dsimp only at na nb
 refine QT.intro (G:=fun F=>JP F ⟨q,n,c⟩ a∧JP F ⟨q2,n2,c2⟩ b) Tryz.func140 rfl (by rfl) rfl rfl hF (fun F' hF'=>⟨hA.le hF',hB.le hF'⟩)<|QG<|QB<|QA (QE rfl)<|QF<|QC<|QG<|QG<|QB<|QA (QD rfl)<|QA (Qn rfl Qe)<|QA (QD rfl)<|QA (Qn rfl Qe)<|QA (QU rfl rfl rfl)<|QF<|QC ?_
 refine QQ rfl (fun hc=>?_) (fun hc=>?_)
 ·
  have hne:=bne_iff_ne.1 hc
  refine QG<|QB<|QA (QE rfl)<|QF<|QC<|QR ?_
  exact QN (()) rfl (.tmp rfl .nil) (congrArg Value.bool (decide_eq_false (fun e=>hne (by rw [← na,← nb,e])))) (fun F ⟨hA,hB⟩=>trivial)
 ·
  have hne:=bne_eq_false_iff_eq.1 hc
  refine QP<|QC<|QG<|QG<|QB<|QA (QE rfl)<|QF<|QC<|Qa<|Zf (ι:=yy a b) [(0,_),(1,_)] (fun i=>[(5,.int .i64 ((i.i:Nat):Int))]) (fun i=>a.length - i.i) (⟨0,Nat.zero_le _,rfl⟩) ⟨rfl,rfl,trivial⟩ ⟨rfl,trivial⟩ (fun i=>?_)
  simp only [List.cons_append,List.nil_append]
  have hi:=i.le
  refine QG<|QG<|QB<|QA (QD rfl)<|QA (QD rfl)<|QA (Qn rfl Qe)<|QA (QU rfl rfl rfl)<|QF<|QC ?_
  refine QQ rfl (fun hc=>?_) (fun hc=>?_)
  ·
   have hlt:i.i<a.length:=by have:=of_decide_eq_true hc;omega
   refine QP<|QC<|QG<|Qa<|QG<|JG (List.Sublist.refl _) mixed (by kernel_rfl)<|QK (QD rfl)<|QK (QD rfl)<|QK (JY (n:=n) (i.i) (fun F ⟨hA,hB⟩=>(hA).1) rfl rfl Qe Qp (by omega))<|QK (Jf (n:=n) ((i.i)*1) (fun F ⟨hA,hB⟩=>(hA).1) (by omega) rfl Qp (JL (o:=a) (by omega)))<|QK (QD rfl)<|QK (QD rfl)<|QK (JY (n:=n2) (i.i) (fun F ⟨hA,hB⟩=>(hB).1) rfl rfl Qe Qp (by omega))<|QK (Jf (n:=n2) ((i.i)*1) (fun F ⟨hA,hB⟩=>(hB).1) (by omega) rfl Qp (JL (o:=b) (by omega)))<|QK (QU rfl rfl rfl)<|Q2<|QC ?_
   refine QQ rfl (fun hc=>?_) (fun hc=>?_)
   ·
    have he:=bne_iff_ne.1 hc
    refine QG<|QB<|QA (QE rfl)<|QF<|QC<|QR ?_
    repeat (first | refine JH ?_ | refine JA ?_)
    exact QN (()) rfl (.tmp rfl .nil) (congrArg Value.bool (decide_eq_false (fun e=>he (congrArg (fun z=>Qf z i.i) e)))) (fun F ⟨hA,hB⟩=>trivial)
   ·
    have he:=bne_eq_false_iff_eq.1 hc
    refine QP<|Ql<|QC<|QB<|QA (QD rfl)<|QA (Qu rfl rfl (by omega))<|QA (QE rfl)<|QF ?_
    exact Qo (⟨i.i+1,hlt,i.next hlt (by omega) he⟩) (by show a.length - (i.i+1)<a.length - i.i;omega) ⟨rfl,rfl,rfl,trivial⟩ (List.Sublist.refl _) (fun F h=>h)
  ·
   have hge:i.i=a.length:=by have:=of_decide_eq_false hc;omega
   refine Q5 ?_
   repeat (first | refine Qc ?_ | refine QX (by rfl) ?_)
   refine Qd<|QC<|QG<|QB<|QA (QE rfl)<|QF<|QC<|QR ?_
   exact QN (()) rfl (.tmp rfl .nil) (congrArg Value.bool (decide_eq_true (by have h:=i.h;rw [hge,List.take_length,List.take_of_length_le (by omega)] at h;exact h))) (fun F ⟨hA,hB⟩=>trivial)
end
section
open Go.RowKit Ig
end
section
open Go.RowKit Ig
end
section
open Go.RowKit Ig
section
variable {ps:List Ge} {v:Int} {i:Nat}
end
end
section
open Go.RowKit Ig
structure yw (a b:List Ge) where
 i:Nat
 le:i≤a.length
 h:(XJ a).take i=(XJ b).take i
theorem G2 (a:List Ge):(XJ a).length=a.length:=by simp [XJ]
theorem yw.next {a b:List Ge} (s:yw a b) (h1:s.i<a.length) (h2:s.i<b.length) (e1:(el a s.i).f=(el b s.i).f) (e2:(el a s.i).k=(el b s.i).k):(XJ a).take (s.i+1)=(XJ b).take (s.i+1):=by
 rw [ZJ (by rw [G2];exact h1),ZJ (by rw [G2];exact h2),s.h,BF h1,BF h2,e1,e2]
theorem R2 {a b:List Ge} {i:Nat} (h1:i<a.length) (h2:i<b.length) (h:XJ a=XJ b):(el a i).f=(el b i).f∧(el a i).k=(el b i).k:=by
 have e1:=BF h1
 have e2:=BF h2
 rw [h,e2] at e1
 have:=Prod.mk.inj e1
 exact⟨this.1.symm,this.2.symm⟩
theorem Tj {w:World} {F:Gs} {q q2:Option Addr} {n cap n2 cap2:Nat} {a b:List Ge} (hF:Fits F w) (hR:JB F q n 2 (a.flatMap Wu)) (hP:Yy F a) (hR2:JB F q2 n2 2 (b.flatMap Wu)) (hP2:Yy F b) (hln:a.length=n) (hln2:b.length=n2) (hf:∀ t∈a,t.k.length≤1000000) (hl:a.length≤1000000):QV Tryz.prog 43 [.slice q n cap,.slice q2 n2 cap2] w F (.bool (decide (XJ a=XJ b))):=by
 refine QT.intro (G:=fun F=>JB F q n 2 (a.flatMap Wu)∧Yy F a∧JB F q2 n2 2 (b.flatMap Wu)∧Yy F b) Tryz.func43 rfl (by rfl) rfl rfl hF (fun F' hF'=>⟨hR.le hF',hP.le hF',hR2.le hF',hP2.le hF'⟩)<|QG<|QB<|QA (QE rfl)<|QF<|QC<|QG<|QG<|QB<|QA (QD rfl)<|QA (Qn rfl Zs)<|QA (QD rfl)<|QA (Qn rfl Zs)<|QA (QU rfl rfl rfl)<|QF<|QC ?_
 refine QQ rfl (fun hc=>?_) (fun hc=>?_)
 ·
  have hne:=bne_iff_ne.1 hc
  refine QG<|QB<|QA (QE rfl)<|QF<|QC<|QR ?_
  exact QN (()) rfl (.tmp rfl .nil) (congrArg Value.bool (decide_eq_false (fun e=>hne (by rw [← hln,← hln2,← G2 a,← G2 b,e])))) (fun F ⟨hR,hP,hR2,hP2⟩=>trivial)
 ·
  have hne:=bne_eq_false_iff_eq.1 hc
  refine QP<|QC<|QG<|QG<|QB<|QA (QE rfl)<|QF<|QC<|Qa<|Zf (ι:=yw a b) [(0,_),(1,_)] (fun i=>[(5,.int .i64 ((i.i:Nat):Int))]) (fun i=>a.length - i.i) (⟨0,Nat.zero_le _,rfl⟩) ⟨rfl,rfl,trivial⟩ ⟨rfl,trivial⟩ (fun i=>?_)
  simp only [List.cons_append,List.nil_append]
  have hi:=i.le
  refine QG<|QG<|QB<|QA (QD rfl)<|QA (QD rfl)<|QA (Qn rfl Zs)<|QA (QU rfl rfl rfl)<|QF<|QC ?_
  refine QQ rfl (fun hc=>?_) (fun hc=>?_)
  ·
   have hlt:i.i<a.length:=by have:=of_decide_eq_true hc;omega
   have hlt2:i.i<b.length:=by omega
   have hta:=Je hlt
   have htb:=Je hlt2
   refine QP<|QC<|QG<|Qa<|QG<|JG (List.Sublist.refl _) mixed (by kernel_rfl)<|QK (QD rfl)<|QK (QD rfl)<|QK (JY (n:=n) (i.i) (fun F ⟨hR,hP,hR2,hP2⟩=>hR) rfl rfl Zs X4 (by omega))<|QK (QI rfl B7 JC)<|QK (Jf (n:=n) ((i.i)*2+0) (fun F ⟨hR,hP,hR2,hP2⟩=>hR) (by omega) rfl JC (XW (f:=Wu) (l:=a) V0 (by omega) rfl))<|QK (QD rfl)<|QK (QD rfl)<|QK (JY (n:=n2) (i.i) (fun F ⟨hR,hP,hR2,hP2⟩=>hR2) rfl rfl Zs X4 (by omega))<|QK (QI rfl B7 JC)<|QK (Jf (n:=n2) ((i.i)*2+0) (fun F ⟨hR,hP,hR2,hP2⟩=>hR2) (by omega) rfl JC (XW (f:=Wu) (l:=b) V0 (by omega) rfl))<|QK (O5 rfl rfl)<|QK (QD rfl) ?_
   refine DU (t:=28) rfl (fun hb28=>?_) (fun hb28=>?_)
   ·
    have h28:¬ (el a i.i).f=(el b i.i).f:=bne_iff_ne.1 hb28
    refine Ju rfl rfl rfl<|Ju rfl rfl rfl<|Ju rfl rfl rfl<|Ju rfl rfl rfl<|Ju rfl rfl rfl<|Ju rfl rfl rfl<|Ju rfl rfl rfl<|Ju rfl rfl rfl<|Ju rfl rfl rfl<|Ju rfl rfl rfl<|Ju rfl rfl rfl<|Ju rfl rfl rfl<|QK (Qj rfl rfl rfl)<|Q2<|QC<|VC rfl<|QG<|QB<|QA (QE rfl)<|QF<|QC<|QR ?_
    repeat (first | refine JH ?_ | refine JA ?_)
    exact QN (()) rfl (.tmp rfl .nil) (congrArg Value.bool (decide_eq_false (fun e=>by first | exact h28 (R2 hlt hlt2 e).1 | (have g:=(R2 hlt hlt2 e).2;rw [g] at hc;simp at hc)))) (fun F ⟨hR,hP,hR2,hP2⟩=>trivial)
   ·
    have h28:(el a i.i).f=(el b i.i).f:=bne_eq_false_iff_eq.1 hb28
    refine XH rfl rfl<|QK (QD rfl)<|XH rfl rfl<|QK (QD rfl)<|XH rfl rfl<|QK (JY (n:=n) (i.i) (fun F ⟨hR,hP,hR2,hP2⟩=>hR) rfl rfl Zs X4 (by omega))<|XH rfl rfl<|QK (QI rfl Wm Qs)<|XH rfl rfl<|QK (Jf (n:=n) ((i.i)*2+1) (fun F ⟨hR,hP,hR2,hP2⟩=>hR) (by omega) rfl Qs (XW (f:=Wu) (l:=a) V0 (by omega) rfl))<|XH rfl rfl<|QK (QD rfl)<|XH rfl rfl<|QK (QD rfl)<|XH rfl rfl<|QK (JY (n:=n2) (i.i) (fun F ⟨hR,hP,hR2,hP2⟩=>hR2) rfl rfl Zs X4 (by omega))<|XH rfl rfl<|QK (QI rfl Wm Qs)<|XH rfl rfl<|QK (Jf (n:=n2) ((i.i)*2+1) (fun F ⟨hR,hP,hR2,hP2⟩=>hR2) (by omega) rfl Qs (XW (f:=Wu) (l:=b) V0 (by omega) rfl))<|XH rfl rfl<|QY rfl (fun w F hF ⟨hR,hP,hR2,hP2⟩=>Tk hF (a:=(el a i.i).k) (b:=(el b i.i).k) (hP _ hta) (hP2 _ htb) (hf _ hta)) (fun _=>XH rfl rfl<|QK (YV rfl)<|QK (Qh rfl rfl rfl) ?_)
    refine Q2<|QC ?_
    refine QQ rfl (fun hc=>?_) (fun hc=>?_)
    ·
     refine QG<|QB<|QA (QE rfl)<|QF<|QC<|QR ?_
     repeat (first | refine JH ?_ | refine JA ?_)
     exact QN (()) rfl (.tmp rfl .nil) (congrArg Value.bool (decide_eq_false (fun e=>by first | exact h28 (R2 hlt hlt2 e).1 | (have g:=(R2 hlt hlt2 e).2;rw [g] at hc;simp at hc)))) (fun F ⟨⟨hR,hP,hR2,hP2⟩,_⟩=>trivial)
    ·
     refine QP<|Ql<|QC<|QB<|QA (QD rfl)<|QA (Qu rfl rfl (by omega))<|QA (QE rfl)<|QF ?_
     exact Qo (⟨i.i+1,hlt,i.next hlt hlt2 h28 (by simpa using hc)⟩) (by show a.length - (i.i+1)<a.length - i.i;omega) ⟨rfl,rfl,rfl,trivial⟩ (List.Sublist.refl _) (fun F h=>h.1)
  ·
   have hge:i.i=a.length:=by have:=of_decide_eq_false hc;omega
   refine Q5 ?_
   repeat (first | refine Qc ?_ | refine QX (by rfl) ?_)
   refine Qd<|QC<|QG<|QB<|QA (QE rfl)<|QF<|QC<|QR ?_
   exact QN (()) rfl (.tmp rfl .nil) (congrArg Value.bool (decide_eq_true (by have h:=i.h;rw [hge,List.take_of_length_le (by rw [G2];omega),List.take_of_length_le (by rw [G2];omega)] at h;exact h))) (fun F ⟨hR,hP,hR2,hP2⟩=>trivial)
end
section
open Go.RowKit Ig
structure S6 {α:Type} (l:List α) (p:α→Bool) where
 i:Nat
 le:i≤l.length
 z:∀ x∈l.take i,p x=false
section
variable {α:Type} [Inhabited α] {l:List α} {p:α→Bool}
def S6.start (l:List α) (p:α→Bool):S6 l p:=⟨0,Nat.zero_le _,by simp⟩
def S6.next (s:S6 l p) (h:s.i<l.length) (e:p (el l s.i)=false):S6 l p:=⟨s.i+1,h,fun x hx=>by
 rw [ZJ h] at hx
 rcases List.mem_append.1 hx with hx | hx
 ·exact s.z x hx
 ·rw [List.mem_singleton.1 hx];exact e⟩
theorem S6.hit (s:S6 l p) (h:s.i<l.length) (e:p (el l s.i)=true):l.any p=true:=List.any_eq_true.2 ⟨_,Je h,e⟩
theorem S6.stop (s:S6 l p) (h:l.length≤s.i):¬ l.any p=true:=by
 rw [List.any_eq_true]
 rintro ⟨x,hx,e⟩
 have:=s.z x (by rw [List.take_of_length_le h];exact hx)
 rw [this] at e;cases e
end
end
section
open Go.RowKit Ig
end
section
open Go.RowKit Ig
end
section
open Go.RowKit Ig
theorem RR {w:World} {F:Gs} {b:Bool} {e:Int} (hF:Fits F w):QV Tryz.prog 19 [.bool b,.int .i64 e] w F (.int .i64 (if b=true then e else 0)):=by
 refine QT.intro (G:=fun F=>True) Tryz.func19 rfl (by rfl) rfl rfl hF (fun F' hF'=>trivial)<|QG<|QB<|QA (QE rfl)<|QF<|QC<|QG<|QG<|QB<|QA (QD rfl)<|QF<|QC ?_
 refine QQ rfl (fun hc=>?_) (fun hc=>?_)
 ·
  have hb:b=true:=hc
  refine QG<|QB<|QA (QD rfl)<|QA (QE rfl)<|QF<|QC<|QR ?_
  exact QN (()) rfl (.tmp rfl .nil) (congrArg (Value.int .i64) (if_pos hb)) (fun F _=>trivial)
 ·
  have hb:b=false:=hc
  refine QP<|QC<|QG<|QB<|QA (QE rfl)<|QF<|QC<|QR ?_
  exact QN (()) rfl (.tmp rfl .nil) (congrArg (Value.int .i64) (if_neg (by rw [hb];decide))) (fun F _=>trivial)
theorem Ng {w:World} {F:Gs} {q:Option Addr} {n c:Nat} {l:List Int} (hF:Fits F w) (hR:JB F q n 1 (l.map Q3)) (hn:n≤1000000000):QV Tryz.prog 23 [.slice q n c] w F (.int .i64 (Qm l)):=by
 have hln:l.length=n:=by have:=hR.1;simpa using this
 refine QT.intro (G:=fun F=>JB F q n 1 (l.map Q3)) Tryz.func23 rfl (by rfl) rfl rfl hF (fun F' hF'=>hR.le hF')<|QG<|QB<|QA (QE rfl)<|QF<|QC<|QG<|QG<|QB<|QA (QE rfl)<|QF<|QC<|Qa<|Zf (ι:=YJ l (fun x=>x)) [(0,_)] (fun i=>[(3,.int .i64 ((i.i:Nat):Int))]) (fun i=>l.length - i.i) (YJ.start _ _) ⟨rfl,trivial⟩ ⟨rfl,trivial⟩ (fun i=>?_)
 simp only [List.cons_append,List.nil_append]
 have hi:=i.le
 refine QG<|QG<|QB<|QA (QD rfl)<|QA (QD rfl)<|QA (Qn rfl Qe)<|QA (QU rfl rfl rfl)<|QF<|QC ?_
 refine QQ rfl (fun hc=>?_) (fun hc=>?_)
 ·
  have hlt:i.i<l.length:=by have:=of_decide_eq_true hc;omega
  refine QP<|QC<|QG<|Qa<|QG<|QB<|QA (QD rfl)<|QA (QD rfl)<|QA (JY (n:=n) (i.i) (fun F hR=>hR) rfl rfl Qe Qp (by omega))<|QA (Jf (n:=n) ((i.i)*1) (fun F hR=>hR) (by omega) rfl Qp (JL (o:=l) (by omega)))<|QA (QU rfl rfl rfl)<|QF<|QC ?_
  refine QQ rfl (fun hc=>?_) (fun hc=>?_)
  ·
   refine QG<|QB<|QA (QD rfl)<|QA (QD rfl)<|QA (JY (n:=n) (i.i) (fun F hR=>hR) rfl rfl Qe Qp (by omega))<|QA (Jf (n:=n) ((i.i)*1) (fun F hR=>hR) (by omega) rfl Qp (JL (o:=l) (by omega)))<|QA (QE rfl)<|QF<|QC<|QR ?_
   repeat (first | refine JH ?_ | refine JA ?_)
   exact QN (()) rfl (.tmp rfl .nil) (congrArg (Value.int .i64) (by rw [Xn hlt,Gl l];exact i.hit hlt (by rw [← Xn hlt];exact bne_iff_ne.1 hc))) (fun F hR=>trivial)
  ·
   refine QP<|Ql<|QC<|QB<|QA (QD rfl)<|QA (Qu rfl rfl (by omega))<|QA (QE rfl)<|QF ?_
   exact Qo (i.next hlt (by rw [← Xn hlt];exact bne_eq_false_iff_eq.1 hc)) (by show l.length - (i.i+1)<l.length - i.i;omega) ⟨rfl,rfl,trivial⟩ (List.Sublist.refl _) (fun F h=>h)
 ·
  have hge:l.length≤i.i:=by have:=of_decide_eq_false hc;omega
  refine Q5 ?_
  repeat (first | refine Qc ?_ | refine QX (by rfl) ?_)
  refine Qd<|QC<|QG<|QB<|QA (QE rfl)<|QF<|QC<|QR ?_
  exact QN (()) rfl (.tmp rfl .nil) (congrArg (Value.int .i64) (by rw [Gl l];exact i.stop hge)) (fun F hR=>trivial)
end
section
open Go.RowKit Ig
def Dm (have_:List UInt8) (e bad:Int) (want:List UInt8):Bool :=
 if bad=0 then(if YN want=0 then(e==0)&&(have_==want) else(have_==[])&&(e==YN want)) else(have_==[])&&(e==bad)
theorem RO {w:World} {F:Gs} {a b:List UInt8} {e d:Int} (hF:Fits F w) (hl:b.length≤1000000000):QV Tryz.prog 25 [tx a,.int .i64 e,.int .i64 d,tx b] w F (.bool (Dm a e d b)):=by
 refine QT.intro (G:=fun F=>True) Tryz.func25 rfl (by rfl) rfl rfl hF (fun F' hF'=>trivial)<|QG<|QB<|QA (QE rfl)<|QF<|QC<|QG<|QG<|QB<|QA (QD rfl)<|QA (QU rfl rfl rfl)<|QF<|QC ?_
 refine QQ rfl (fun hc=>?_) (fun hc=>?_)
 ·
  have h10:=eq_of_beq hc
  refine QB<|QA (QD rfl)<|QH rfl (fun w F hF _=>To hF (hl)) (fun _=>QA (QE rfl)<|QF<|QC<|QG<|QG<|QB<|QA (QD rfl)<|QA (QU rfl rfl rfl)<|QF<|QC ?_)
  refine QQ rfl (fun hc=>?_) (fun hc=>?_)
  ·
   have h14:=bne_iff_ne.1 hc
   refine QG<|QB<|QA (QD rfl)<|QA (Za rfl rfl)<|QA (QD rfl) ?_
   refine Qk (t:=17) rfl (fun hb17=>?_) (fun hb17=>?_)
   ·
    refine QL rfl rfl<|QA (QD rfl)<|QL rfl rfl<|QA (QD rfl)<|QL rfl rfl<|QA (QU rfl rfl rfl)<|QA (Qj rfl rfl rfl)<|QA (QE rfl)<|QF<|QC<|QR ?_
    exact QN (()) rfl (.tmp rfl .nil) (congrArg Value.bool (by unfold Dm;simp_all)) (fun F ⟨_,_⟩=>trivial)
   ·
    refine QO rfl rfl rfl<|QO rfl rfl rfl<|QO rfl rfl rfl<|QA (Qh rfl rfl rfl)<|QA (QE rfl)<|QF<|QC<|QR ?_
    exact QN (()) rfl (.tmp rfl .nil) (congrArg Value.bool (by unfold Dm;simp_all)) (fun F ⟨_,_⟩=>trivial)
  ·
   have h14:=bne_eq_false_iff_eq.1 hc
   refine QP<|QC<|QG<|QB<|QA (QD rfl)<|QA (QU rfl rfl rfl)<|QA (QD rfl) ?_
   refine Qk (t:=24) rfl (fun hb24=>?_) (fun hb24=>?_)
   ·
    refine QL rfl rfl<|QA (QD rfl)<|QL rfl rfl<|QA (QD rfl)<|QL rfl rfl<|QA (Za rfl rfl)<|QA (Qj rfl rfl rfl)<|QA (QE rfl)<|QF<|QC<|QR ?_
    exact QN (()) rfl (.tmp rfl .nil) (congrArg Value.bool (by unfold Dm;simp_all)) (fun F ⟨_,_⟩=>trivial)
   ·
    refine QO rfl rfl rfl<|QO rfl rfl rfl<|QO rfl rfl rfl<|QA (Qh rfl rfl rfl)<|QA (QE rfl)<|QF<|QC<|QR ?_
    exact QN (()) rfl (.tmp rfl .nil) (congrArg Value.bool (by unfold Dm;simp_all)) (fun F ⟨_,_⟩=>trivial)
 ·
  have h10:¬ d=0:=fun e=>by rw [e] at hc;cases hc
  refine QP<|QC<|QG<|QG<|QB<|QA (QD rfl)<|QA (QU rfl rfl rfl)<|QF<|QC ?_
  refine QQ rfl (fun hc=>?_) (fun hc=>?_)
  ·
   have h14:=bne_iff_ne.1 hc
   refine QG<|QB<|QA (QD rfl)<|QA (Za rfl rfl)<|QA (QD rfl) ?_
   refine Qk (t:=17) rfl (fun hb17=>?_) (fun hb17=>?_)
   ·
    refine QL rfl rfl<|QA (QD rfl)<|QL rfl rfl<|QA (QD rfl)<|QL rfl rfl<|QA (QU rfl rfl rfl)<|QA (Qj rfl rfl rfl)<|QA (QE rfl)<|QF<|QC<|QR ?_
    exact QN (()) rfl (.tmp rfl .nil) (congrArg Value.bool (by unfold Dm;simp_all)) (fun F _=>trivial)
   ·
    refine QO rfl rfl rfl<|QO rfl rfl rfl<|QO rfl rfl rfl<|QA (Qh rfl rfl rfl)<|QA (QE rfl)<|QF<|QC<|QR ?_
    exact QN (()) rfl (.tmp rfl .nil) (congrArg Value.bool (by unfold Dm;simp_all)) (fun F _=>trivial)
  ·
   have h14:=bne_eq_false_iff_eq.1 hc
   refine QP<|QC<|QG<|QB<|QA (QD rfl)<|QA (QU rfl rfl rfl)<|QA (QD rfl) ?_
   refine Qk (t:=24) rfl (fun hb24=>?_) (fun hb24=>?_)
   ·
    refine QL rfl rfl<|QA (QD rfl)<|QL rfl rfl<|QA (QD rfl)<|QL rfl rfl<|QA (Za rfl rfl)<|QA (Qj rfl rfl rfl)<|QA (QE rfl)<|QF<|QC<|QR ?_
    exact QN (()) rfl (.tmp rfl .nil) (congrArg Value.bool (by unfold Dm;simp_all)) (fun F _=>trivial)
   ·
    refine QO rfl rfl rfl<|QO rfl rfl rfl<|QO rfl rfl rfl<|QA (Qh rfl rfl rfl)<|QA (QE rfl)<|QF<|QC<|QR ?_
    exact QN (()) rfl (.tmp rfl .nil) (congrArg Value.bool (by unfold Dm;simp_all)) (fun F _=>trivial)
end
section
open Go.RowKit Ig
end
section
open Go.RowKit Ig
end
section
open Go.RowKit Ig
end
section
open Go.RowKit Ig
section
variable {P:Program} {Q:Exit→Act→World→Prop} {N:Nat} {m:Sl} {E0:Env} {ops:Array Oper} {l:List Oper} {w0:World} {F0:Gs} {bs:List (Nat×Obj)} {G:Gs→Prop} {ty:TypeId}
theorem xf {d:Nat} {pos:String} {aft:Array Edge} {t e:TypeId} {sz bytes n:Nat} {z:List Value} {g:Bool} {X Y:Operand} {kl:IntKind} (hx:ev m X=some (.int kl (n:Int))) (hy:ev m Y=some (.int kl (n:Int))) (ht:BH P t=some e) (hs:YR P e=some (g,sz)) (hz:XO P e=some z) (hzl:z.length=sz) (hby:Yg P e=some bytes) (h63:(n:Int)≤9223372036854775807) (h48:n*bytes≤281474976710656)
  (k:∀ b,JD P ops Q E0 l N ((d,.slice (some ⟨b,0,none⟩) n n)::m) ⟨w0,F0,(b,.cells (ZY z n).toArray e (0,0))::bs,G⟩) (hu:Wh e=true:=by rfl) (hd:J7 N (some d)=true:=by rfl) :
  JD P ops Q E0 (⟨some d,.makeSlice t X Y,ty,pos,aft,none⟩::l) N m ⟨w0,F0,bs,G⟩:=fun hE a w ha hw=>by
 have hS:=hw.alloc (.cells (ZY z n).toArray e (0,0)) (Xm hu)
 have sub:∀ w' b,St ⟨w0,F0,(b,.cells (ZY z n).toArray e (0,0))::bs,G⟩ w'→St E0 w':=fun w' b h=>hE w' (h.imp (List.sublist_cons_self _ _) fun _ h=>h)
 refine .inr ⟨rfl,?_⟩
 rw [if_pos (by simp [Region.wanted])]
 exact upon_value (by
  simp only [execOp,ha.ev hx,ha.ev hy,Sem.run_bind,Pz ht hs hz hzl hby h63 h48,Result.andThen_ok,Sem.run_pure]) ⟨sub _ _ hS,k _ (fun w' h=>sub w' _ h) _ _ (ha.put hd _) hS⟩
end
def Vc (a:Rat) (k:Nat):List Tm:=if a=0 then [] else [(a,List.replicate k 0)]
theorem T2 {w:World} {F:Gs} {x:Fr} {a:Rat} {k:Nat} (hF:Fits F w) (hA:Jc F x a) (hk:k≤1000):QT Tryz.prog 222 [x.v,.int .i64 (k:Nat)] w F (fun(c:W8)=>c.1.v) (fun c F=>Jo F c.1 c.2 (Vc a k)):=by
 dsimp only [Fr.v]
 refine QT.intro (G:=fun F=>Jc F x a) Tryz.func222 rfl (by rfl) rfl rfl hF (fun F' hF'=>hA.le hF')<|QG<|QB<|Qz rfl (vs:=[_,_,_,_]) rfl (fun b2=>QA (QE rfl)<|QF<|QC<|QG<|QG<|QB<|QA (QJ (vs:=[_,_,_,_]) rfl Qg .here (.here (.here (.here (.here .nil)))) rfl)<|QH rfl (fun w F hF ⟨hxn,hxd⟩=>Gv hF ⟨by assumption,by assumption⟩) (fun _=>QA (QU rfl rfl rfl)<|QF<|QC ?_))
 refine QQ rfl (fun hc=>?_) (fun hc=>?_)
 ·
  have ha0:a=0:=Ba.1 (by simpa using hc)
  refine QG<|QB<|QA (QE rfl)<|QF<|QC<|QR ?_
  exact QN ((⟨none,0,0⟩,[])) rfl (.tmp rfl .nil) (rfl) (fun F ⟨⟨hxn,hxd⟩,_⟩=>⟨JB.nil F none 5,(fun _ h=>by cases h),by unfold Vc;rw [if_pos ha0];rfl,Nat.le_refl _,rfl⟩)
 ·
  have ha0:a≠0:=fun e=>by rw [e] at hc;cases hc
  refine QP<|QC<|QG<|JG (List.Sublist.refl _) mixed (by kernel_rfl)<|QK (QJ (vs:=[_,_,_,_]) rfl Qg .here (.here (.here (.here (.here .nil)))) rfl)<|QK (QD rfl)<|xf (n:=k) (bytes:=8) rfl rfl Qe Qp VE rfl DM (by omega) (by omega) (fun b10=>?_)
  rw [show ZY [Value.int .i64 0] k=(List.replicate k (0:Int)).map Q3 by rw [VL];simp [Q3]]
  refine OG (b:=b10) .here (List.Sublist.refl _) (fun _ h=>h)<|QK (Q4 rfl NM Zh (.cons (vs:=[_,_,_,_]) rfl rfl rfl (.here (.here (.here (.here .nil)))) (.cons (vs:=[_]) rfl rfl rfl (.skip (.skip (.skip (.skip (.here .nil))))) .nil))) ?_
  refine Jv rfl (Q8 J3) Ji Zh rfl rfl (fun b12=>?_) (fun w h=>h.imp (.cons_cons _ .slnil) (fun F h=>h.1))
  refine QK (QE rfl)<|Q2<|QC<|QR ?_
  exact QN ((⟨some ⟨b12,0,none⟩,1,1⟩,[⟨x,⟨some ⟨b10,0,none⟩,k,k⟩,(a,(List.replicate k (0:Int)))⟩])) rfl (.tmp rfl .nil) (rfl) (fun F ⟨⟨⟨⟨hxn,hxd⟩,_⟩,hz⟩,hs12⟩=>⟨JB.of hs12 rfl,fun t ht=>by
  rw [List.mem_singleton.1 ht]
  exact⟨⟨hxn,hxd⟩,JB.of hz (by simp),by simp,Nat.le_refl _⟩,by unfold Vc;rw [if_neg ha0];rfl,Nat.le_refl _,rfl⟩)
end
section
open Go.RowKit Ig
def Wf (p:List Tm) (k:Nat):Nat→List Tm
 |0=>Vc 1 k
 |i+1=>XK (Jk (Wf p k i) p)
structure gS (n:Nat) where
 i:Nat
 c:W8
 le:i≤n
structure DQ (p q:List Tm) (N:Nat):Prop where
 wp:∀ t∈p,t.2.length=N
 wq:∀ t∈q,t.2.length=N
 lp:p.length≤10000
 lq:q.length≤10000
 pp:∀ t∈p,PW t.2
 pq:∀ t∈q,PW t.2
 pm:∀ s∈p,∀ t∈q,PW (Xu s.2 t.2)
 zp:Zm p≤20000000
 zq:Zm q≤20000000
 zm:Zm (Jk p q)≤40000000
theorem T0 {w:World} {F:Gs} {p q:W8} {N:Nat} (hF:Fits F w) (hGl:JF F) (hP:Jo F p.1 p.2 (JK p.2)) (hQ:Jo F q.1 q.2 (JK q.2)) (hN:N≤1000) (h:DQ (JK p.2) (JK q.2) N) :
  QT Tryz.prog 223 [p.1.v,q.1.v] w F (fun(c:W8)=>c.1.v) (fun c F=>Jo F c.1 c.2 (XK (Jk (JK p.2) (JK q.2)))) :=
 yB hF hGl hP hQ ⟨fun t ht=>h.wp _ (List.mem_map_of_mem ht),fun t ht=>h.wq _ (List.mem_map_of_mem ht)⟩ hN ⟨by have:=h.lp;rwa [KO] at this,by have:=h.lq;rwa [KO] at this⟩
  ⟨fun t ht=>h.pp _ (List.mem_map_of_mem ht),fun t ht=>h.pq _ (List.mem_map_of_mem ht),fun s hs t ht=>h.pm _ (List.mem_map_of_mem hs) _ (List.mem_map_of_mem ht)⟩ ⟨h.zp,h.zq⟩ h.zm
theorem yA {w:World} {F:Gs} {p:W8} {n k:Nat} (hF:Fits F w) (hGl:JF F) (hP:Jo F p.1 p.2 (JK p.2)) (hk:k≤1000) (hn:n≤1000000) (hm:∀ i,i<n→DQ (Wf (JK p.2) k i) (JK p.2) k) :
  QT Tryz.prog 224 [p.1.v,.int .i64 (n:Nat),.int .i64 (k:Nat)] w F (fun(c:W8)=>c.1.v) (fun c F=>Jo F c.1 c.2 (Wf (JK p.2) k n)):=by
 dsimp only [Sr.v]
 refine QT.intro (G:=fun F=>JF F∧Jo F p.1 p.2 (JK p.2)) Tryz.func224 rfl (by rfl) rfl rfl hF (fun F' hF'=>⟨hGl.le hF',hP.le hF'⟩)<|QG<|QB<|QA (QE rfl)<|QF<|QC<|QG<|QB<|QH rfl (fun w F hF ⟨hGl,hP⟩=>vY hF (by omega) (by omega)) (fun x8=>QA (QD rfl)<|QH rfl (fun w F hF ⟨⟨hGl,hP⟩,⟨h8,h8_⟩⟩=>T2 (a:=1) hF ⟨h8,h8_⟩ hk) (fun c10=>QA (QE rfl)<|QF<|QC<|QG<|QG<|QB<|QA (QD rfl)<|QA (QD rfl)<|QF<|QC<|Qa<|J0 (ι:=gS n) [(0,_),(11,_)] (fun i=>[(7,i.c.1.v),(12,.int .i64 ((i.i:Nat):Int))]) (fun i=>[]) (fun i F=>Jo F i.c.1 i.c.2 (Wf (JK p.2) k i.i)) (fun i=>n - i.i) (⟨0,c10,Nat.zero_le _⟩) ⟨rfl,rfl,trivial⟩ ⟨rfl,rfl,trivial⟩ (List.Sublist.refl _) (fun _ h=>h.2) (fun i=>?_)))
 simp only [List.cons_append,List.nil_append]
 have hi:=i.le
 refine QG<|QB<|QA (QU rfl rfl rfl)<|QF<|QC<|QG ?_
 refine QQ rfl (fun hc=>?_) (fun hc=>?_)
 ·
  have hlt:i.i<n:=by have:=of_decide_eq_true hc;omega
  refine QP<|QC<|QG<|Qa<|QB<|QA (QD rfl)<|QA (QD rfl)<|JJ _ (fun w F hF ⟨⟨⟨⟨hGl,hP⟩,⟨h8,h8_⟩⟩,h10⟩,hC⟩=>hC.2.2.1) (fun hce=>QH rfl (fun w F hF ⟨⟨⟨⟨hGl,hP⟩,⟨h8,h8_⟩⟩,h10⟩,hC⟩=>T0 (N:=k) hF hGl (p:=i.c) (q:=p) (by rw [hce];exact hC) hP hk (by rw [hce];exact hm _ hlt)) (fun c16=>?_))
  rw [hce]
  refine QA (QE rfl)<|QF<|Ql<|QC<|QB<|QA (Qu rfl rfl (by omega))<|QA (QD rfl)<|QF ?_
  exact Qo (⟨i.i+1,c16,hlt⟩) (by show n - (i.i+1)<n - i.i;omega) ⟨rfl,rfl,rfl,rfl,trivial⟩ (List.Sublist.refl _) (fun F h=>⟨h.1.1,h.2⟩)
 ·
  have hge:i.i=n:=by have:=of_decide_eq_false hc;omega
  refine Q5 ?_
  repeat (first | refine Qc ?_ | refine QX (by rfl) ?_)
  refine Qd<|QC<|QG<|QB<|QA (QD rfl)<|QA (QE rfl)<|QF<|QC<|QR ?_
  exact QN (i.c) rfl (.tmp rfl .nil) (rfl) (fun F ⟨⟨⟨⟨hGl,hP⟩,⟨h8,h8_⟩⟩,h10⟩,hC⟩=>by rw [hge] at hC;exact hC)
end
section
open Go.RowKit Ig
def D1 (c:Rat) (ws:List (List Tm)) (ks:List Int) (k:Nat):Nat→List Tm
 |0=>Vc c k
 |i+1=>XK (Jk (D1 c ws ks k i) (Wf (el ws i) k (Qf ks i).toNat))
def Wq (ws:List (List Tm)) (k:Nat) (l:List Tm):List Tm:=l.foldl (fun a t=>XK (a++D1 t.1 ws t.2 k t.2.length)) []
theorem Lx {ts:List XZ} {ws:List (List Tm)} {k i:Nat} (h:i<ts.length):Wq ws k (JK (ts.take (i+1)))=XK (Wq ws k (JK (ts.take i))++D1 (el ts i).t.1 ws (el ts i).t.2 k (el ts i).t.2.length):=by
 rw [Xw h];unfold Wq;rw [List.foldl_append];rfl
structure qf (p q:List Tm):Prop where
 pp:∀ t∈p,PW t.2
 pq:∀ t∈q,PW t.2
 lp:p.length≤400000000
 lq:q.length≤400000000
 zs:Zm (p++q)≤40000000
theorem CU {w:World} {F:Gs} {p q:W8} (hF:Fits F w) (hGl:JF F) (hP:Jo F p.1 p.2 (JK p.2)) (hQ:Jo F q.1 q.2 (JK q.2)) (h:qf (JK p.2) (JK q.2)) :
  QT Tryz.prog 139 [p.1.v,q.1.v] w F (fun(c:W8)=>c.1.v) (fun c F=>Jo F c.1 c.2 (XK (JK p.2++JK q.2))) :=
 yG hF hGl hP hQ ⟨fun t ht=>h.pp _ (List.mem_map_of_mem ht),fun t ht=>h.pq _ (List.mem_map_of_mem ht)⟩ ⟨by have:=h.lp;rwa [KO] at this,by have:=h.lq;rwa [KO] at this⟩ h.zs
structure gm (n:Nat) where
 i:Nat
 c:W8
 le:i≤n
structure gn (n:Nat) where
 j:Nat
 d:W8
 le:j≤n
def Pn (ws:List W8):List (List Tm):=ws.map fun e=>JK e.2
theorem AO {ws:List W8} {j:Nat} (h:j<ws.length):el (Pn ws) j=JK (el ws j).2:=by rw [Zl (by simpa [Pn] using h),Zl h];simp [Pn]
theorem Av {w:World} {F:Gs} {q q2:Option Addr} {n cap n2 cap2 k:Nat} {ts:List XZ} {ws:List W8} (hF:Fits F w) (hGl:JF F) (hP:Jo F ⟨q,n,cap⟩ ts (JK ts)) (hW:JB F q2 n2 1 (ws.map fun e=>e.1.v)) (hWs:AB F ws) (hw:ws.length=n2) (hk:k≤1000) (hl:ts.length≤1000000)
  (hp:∀ t∈ts,t.t.2.length≤n2∧PW t.t.2) (h1:∀ t∈ts,∀ j,j<t.t.2.length→DQ (D1 t.t.1 (Pn ws) t.t.2 k j) (Wf (el (Pn ws) j) k (Qf t.t.2 j).toNat) k∧∀ i,i<(Qf t.t.2 j).toNat→DQ (Wf (el (Pn ws) j) k i) (el (Pn ws) j) k)
  (h2:∀ i,i<ts.length→qf (Wq (Pn ws) k (JK (ts.take i))) (D1 (el ts i).t.1 (Pn ws) (el ts i).t.2 k (el ts i).t.2.length)) :
  QT Tryz.prog 144 [.slice q n cap,.slice q2 n2 cap2,.int .i64 (k:Nat)] w F (fun(c:W8)=>c.1.v) (fun c F=>Jo F c.1 c.2 (Wq (Pn ws) k (JK ts))):=by
 have hln:ts.length=n:=hP.2.2.2.2
 refine QT.intro (G:=fun F=>JF F∧Jo F ⟨q,n,cap⟩ ts (JK ts)∧JB F q2 n2 1 (ws.map fun e=>e.1.v)∧AB F ws) Tryz.func144 rfl (by rfl) rfl rfl hF (fun F' hF'=>⟨hGl.le hF',hP.le hF',hW.le hF',hWs.le hF'⟩)<|QG<|QB<|QA (QE rfl)<|QF<|QC<|QG<|QB<|QA (QE rfl)<|QF<|QC<|QG<|QG<|QB<|QA (QD rfl)<|QA (Qn rfl J3)<|QA (QD rfl)<|QF<|QC<|Qa<|J0 (ι:=gm ts.length) [(1,_),(2,_),(13,_),(14,_)] (fun i=>[(7,i.c.1.v),(15,.int .i64 ((i.i:Nat):Int))]) (fun i=>[]) (fun i F=>Jo F i.c.1 i.c.2 (Wq (Pn ws) k (JK (ts.take i.i)))) (fun i=>ts.length - i.i) (⟨0,(⟨none,0,0⟩,[]),Nat.zero_le _⟩) ⟨rfl,rfl,rfl,rfl,trivial⟩ ⟨rfl,rfl,trivial⟩ (List.Sublist.refl _) (fun F _=>⟨JB.nil F none 5,(fun _ h=>by cases h),rfl,Nat.le_refl _,rfl⟩) (fun i=>?_)
 simp only [List.cons_append,List.nil_append]
 have hi:=i.le
 refine QG<|QB<|QA (QU rfl rfl rfl)<|QF<|QC<|QG ?_
 refine QQ rfl (fun hc=>?_) (fun hc=>?_)
 ·
  have hlt:i.i<ts.length:=by have:=of_decide_eq_true hc;omega
  have htm:=Je hlt
  have hp1:=hp _ htm
  have hpl:=hp1.2.2
  have hrl:=(hP.2.1 _ htm).2.2.1
  refine QP<|QC<|QG<|Qa<|QG<|QB<|QA (JY (n:=n) (i.i) (fun F ⟨⟨hGl,hP,hW,hWs⟩,hC⟩=>(hP).1) rfl rfl J3 Ji (by omega))<|QA (X9 (n:=n) (vs:=[.int .i64 (el ts (i.i)).x.n.s,.slice (el ts (i.i)).x.n.q (el ts (i.i)).x.n.n (el ts (i.i)).x.n.cap,.int .i64 (el ts (i.i)).x.d.s,.slice (el ts (i.i)).x.d.q (el ts (i.i)).x.d.n (el ts (i.i)).x.d.cap,.slice (el ts (i.i)).r.q (el ts (i.i)).r.n (el ts (i.i)).r.cap]) ((i.i)*5) (fun F ⟨⟨hGl,hP,hW,hWs⟩,hC⟩=>(hP).1) (by omega) rfl Ji rfl (fun j v hv=>XW (f:=Yv) (l:=ts) Yb (by omega) hv))<|QZ Zh (fun b9=>QS (vs:=[_,_,_,_,_]) rfl rfl rfl Ji rfl .here (.here (.here (.here (.here (.here .nil))))) ⟨rfl,rfl,rfl,rfl,rfl,trivial⟩<|QF<|QC<|QG<|QB<|QA (QI rfl YF Qg)<|QA (QJ (vs:=[_,_,_,_]) rfl Qg .here (.here (.here (.here (.here .nil)))) rfl)<|QA (QD rfl)<|QH rfl (fun w F hF ⟨⟨hGl,hP,hW,hWs⟩,hC⟩=>T2 (a:=(el ts i.i).t.1) (x:=(el ts i.i).x) hF (hP.2.1 _ htm).1 hk) (fun c22=>QA (QE rfl)<|QF<|QC<|QG<|QG<|QB<|QA (QI rfl ZB Qs) ?_))
  refine QA (Qi rfl Qs .here (.skip (.skip (.skip (.skip (.here .nil))))))<|QA (Qn rfl Qe)<|QA (QD rfl)<|QF<|QC<|Qa<|J0 (ι:=gn (el ts i.i).t.2.length) [(1,_),(2,_),(7,_),(13,_),(14,_),(15,_),(24,_),(25,_)] (fun i2=>[(10,i2.d.1.v),(26,.int .i64 ((i2.j:Nat):Int))]) (fun i2=>[]) (fun i2 F=>Jo F i2.d.1 i2.d.2 (D1 (el ts i.i).t.1 (Pn ws) (el ts i.i).t.2 k i2.j)) (fun i2=>(el ts i.i).t.2.length - i2.j) (⟨0,c22,Nat.zero_le _⟩) ⟨rfl,rfl,rfl,rfl,rfl,rfl,rfl,rfl,trivial⟩ ⟨rfl,rfl,trivial⟩ (List.nil_sublist _) (fun _ h=>h.2) (fun i2=>?_)
  simp only [List.cons_append,List.nil_append]
  have hj:=i2.le
  refine QG<|QB<|QA (QU rfl rfl rfl)<|QF<|QC<|QG ?_
  refine QQ rfl (fun hc=>?_) (fun hc=>?_)
  ·
   have hlt2:i2.j<(el ts i.i).t.2.length:=by have:=of_decide_eq_true hc;omega
   have hlw:i2.j<ws.length:=by omega
   have hem:=Je hlw
   have hk1:=hp1.2.el hlt2
   refine QP<|QC<|QG<|Qa<|QG<|QB<|QA (QD rfl)<|QA (JY (n:=(el ts i.i).r.n) (i2.j) (fun F ⟨⟨⟨⟨hGl,hP,hW,hWs⟩,hC⟩,h22⟩,hD⟩=>((hP.2.1 _ htm).2).1) rfl rfl Qe Qp (by omega))<|QA (Jf (n:=(el ts i.i).r.n) ((i2.j)*1) (fun F ⟨⟨⟨⟨hGl,hP,hW,hWs⟩,hC⟩,h22⟩,hD⟩=>((hP.2.1 _ htm).2).1) (by omega) rfl Qp (JL (o:=(el ts i.i).t.2) (by omega)))<|QA (QE rfl)<|QA (QE rfl)<|QF<|QC<|QB<|QA (QD rfl)<|QA (QD rfl)<|QA (QD rfl)<|QA (JY (n:=n2) (i2.j) (fun F ⟨⟨⟨⟨hGl,hP,hW,hWs⟩,hC⟩,h22⟩,hD⟩=>hW) rfl rfl De WS (by omega))<|QA (Jf (n:=n2) ((i2.j)*1) (fun F ⟨⟨⟨⟨hGl,hP,hW,hWs⟩,hC⟩,h22⟩,hD⟩=>hW) (by omega) rfl WS (Dt (f:=fun e:W8=>e.1.v) (l:=ws) (by omega)))<|QA (QD rfl)<|QA (QD rfl) ?_
   rw [show(.int .i64 (Qf (el ts i.i).t.2 i2.j):Value) = .int .i64 (((Qf (el ts i.i).t.2 i2.j).toNat:Nat):Int) by rw [Int.toNat_of_nonneg hk1.1]]
   refine QH rfl (fun w F hF ⟨⟨⟨⟨hGl,hP,hW,hWs⟩,hC⟩,h22⟩,hD⟩=>yA (p:=el ws i2.j) hF hGl (hWs _ hem) hk (by omega) (by rw [← AO hlw];exact(h1 _ htm _ hlt2).2)) (fun c38=>JJ _ (fun w F hF ⟨⟨⟨⟨⟨hGl,hP,hW,hWs⟩,hC⟩,h22⟩,hD⟩,h38⟩=>And.intro hD.2.2.1 h38.2.2.1) (fun hde=>?_))
   obtain ⟨hde,h38e⟩:=hde
   refine QH rfl (fun w F hF ⟨⟨⟨⟨⟨hGl,hP,hW,hWs⟩,hC⟩,h22⟩,hD⟩,h38⟩=>T0 (N:=k) hF hGl (p:=i2.d) (q:=c38) (by rw [hde];exact hD) (by rw [h38e];exact h38) hk (by rw [hde,h38e,← AO hlw];exact(h1 _ htm _ hlt2).1)) (fun c39=>?_)
   rw [hde,h38e,← AO hlw]
   refine QA (QE rfl)<|QF<|Ql<|QC<|QB<|QA (Qu rfl rfl (by omega))<|QA (QD rfl)<|QF ?_
   exact Qo (⟨i2.j+1,c39,hlt2⟩) (by show(el ts i.i).t.2.length - (i2.j+1)<(el ts i.i).t.2.length - i2.j;omega) ⟨rfl,rfl,rfl,rfl,rfl,rfl,rfl,rfl,rfl,rfl,trivial⟩ (List.nil_sublist _) (fun F h=>⟨h.1.1.1,h.2⟩)
  ·
   have hge2:i2.j=(el ts i.i).t.2.length:=by have:=of_decide_eq_false hc;omega
   refine Q5 ?_
   repeat (first | refine Qc ?_ | refine QX (by rfl) ?_)
   refine Qd<|QC<|QB<|QA (QD rfl)<|QA (QD rfl)<|JJ _ (fun w F hF ⟨⟨⟨⟨hGl,hP,hW,hWs⟩,hC⟩,h22⟩,hD⟩=>And.intro hC.2.2.1 hD.2.2.1) (fun hde=>?_)
   obtain ⟨hce,hde⟩:=hde
   rw [hge2] at hde
   refine QH rfl (fun w F hF ⟨⟨⟨⟨hGl,hP,hW,hWs⟩,hC⟩,h22⟩,hD⟩=>CU hF hGl (p:=i.c) (q:=i2.d) (by rw [hce];exact hC) (by rw [hde];rw [hge2] at hD;exact hD) (by rw [hce,hde];exact h2 _ hlt)) (fun c43=>?_)
   rw [hce,hde]
   refine QA (QE rfl)<|QF<|Ql<|QC<|QB<|QA (Qu rfl rfl (by omega))<|QA (QD rfl)<|QF ?_
   exact Qo (⟨i.i+1,c43,hlt⟩) (by show ts.length - (i.i+1)<ts.length - i.i;omega) ⟨rfl,rfl,rfl,rfl,rfl,rfl,trivial⟩ (List.nil_sublist _) (fun F h=>⟨h.1.1.1.1,by rw [Lx hlt];exact h.2⟩)
 ·
  have hge:i.i=ts.length:=by have:=of_decide_eq_false hc;omega
  refine Q5 ?_
  repeat (first | refine Qc ?_ | refine QX (by rfl) ?_)
  refine Qd<|QC<|QG<|QB<|QA (QD rfl)<|QA (QE rfl)<|QF<|QC<|QR ?_
  exact QN (i.c) rfl (.tmp rfl .nil) (rfl) (fun F ⟨⟨hGl,hP,hW,hWs⟩,hC⟩=>by rw [hge,List.take_length] at hC;exact hC)
end
section
open Go.RowKit Ig
theorem jY {w:World} {F:Gs} {q:Option Addr} {n c:Nat} {l:List Int} (hF:Fits F w) (hR:JB F q n 1 (l.map Q3)) (hn:n≤1000000000):QV Tryz.prog 142 [.slice q n c] w F (.int .i64 (Qm l)):=by
 have hln:l.length=n:=by have:=hR.1;simpa using this
 have em:l=l.map (fun x=>x):=by simp
 refine QT.intro (G:=fun F=>JB F q n 1 (l.map Q3)) Tryz.func142 rfl (by rfl) rfl rfl hF (fun F' hF'=>hR.le hF')<|QG<|QB<|QA (QE rfl)<|QF<|QC<|QG<|QB<|QA (QE rfl)<|QF<|QC<|QG<|QG<|QB<|QA (QD rfl)<|QA (Qn rfl Zq)<|QA (QD rfl)<|QF<|QC<|Qa<|Zf (ι:=YJ l (fun x=>x)) [(3,_),(6,_),(7,_)] (fun i=>[(8,.int .i64 ((i.i:Nat):Int))]) (fun i=>l.length - i.i) (YJ.start _ _) ⟨rfl,rfl,rfl,trivial⟩ ⟨rfl,trivial⟩ (fun i=>?_)
 simp only [List.cons_append,List.nil_append]
 have hi:=i.le
 refine QG<|QB<|QA (QU rfl rfl rfl)<|QF<|QC<|QG ?_
 refine QQ rfl (fun hc=>?_) (fun hc=>?_)
 ·
  have hlt:i.i<l.length:=by have:=of_decide_eq_true hc;omega
  refine QP<|QC<|QG<|Qa<|QG<|QB<|QA (JY (n:=n) (i.i) (fun F hR=>hR) rfl rfl Zq KC (by omega))<|QA (Jf (n:=n) ((i.i)*1) (fun F hR=>hR) (by omega) rfl KC (JL (o:=l) (by omega)))<|QA (QE rfl)<|QF<|QC<|QG<|QB<|QA (QD rfl)<|QA (QD rfl)<|QA (QU rfl rfl rfl)<|QF<|QC ?_
  refine QQ rfl (fun hc=>?_) (fun hc=>?_)
  ·
   refine QG<|QB<|QA (QD rfl)<|QA (QE rfl)<|QF<|QC<|QR ?_
   repeat (first | refine JH ?_ | refine JA ?_)
   exact QN (()) rfl (.tmp rfl .nil) (congrArg (Value.int .i64) (by rw [Xn hlt,Gl l];exact i.hit hlt (by rw [← Xn hlt];simpa using hc))) (fun F hR=>trivial)
  ·
   refine QP<|Ql<|QC<|QB<|QA (Qu rfl rfl (by omega))<|QA (QD rfl)<|QF ?_
   exact Qo (i.next hlt (by rw [← Xn hlt];simpa using hc)) (by show l.length - (i.i+1)<l.length - i.i;omega) ⟨rfl,rfl,rfl,rfl,trivial⟩ (List.Sublist.refl _) (fun F h=>h)
 ·
  have hge:l.length≤i.i:=by have:=of_decide_eq_false hc;omega
  refine Q5 ?_
  repeat (first | refine Qc ?_ | refine QX (by rfl) ?_)
  refine Qd<|QC<|QG<|QB<|QA (QD rfl)<|QA (QE rfl)<|QF<|QC<|QR ?_
  exact QN (()) rfl (.tmp rfl .nil) (congrArg (Value.int .i64) (by rw [Gl l];exact i.stop hge)) (fun F hR=>trivial)
structure Il (ws:List (List Tm)) (k:Nat) (l:List Tm):Prop where
 mul:∀ t∈l,∀ j,j<t.2.length→DQ (D1 t.1 ws t.2 k j) (Wf (el ws j) k (Qf t.2 j).toNat) k∧∀ i,i<(Qf t.2 j).toNat→DQ (Wf (el ws j) k i) (el ws j) k
 add:∀ i,i<l.length→qf (Wq ws k (l.take i)) (D1 (el l i).1 ws (el l i).2 k (el l i).2.length)
 pw:∀ t∈Wq ws k l,PW t.2
 sz:∀ t∈Wq ws k l,JQ t.1≤100000000
 len:(Wq ws k l).length≤1000000
def Fl (ls:List VK):List (List Tm):=ls.map fun e=>JN (XJ e.2)
structure gk (ls:List VK) where
 i:Nat
 v:Value
 ob:List (Nat×Obj)
 ws:List W8
 le:i≤ls.length
 hr:Q7 157 1 v i (ws.map fun e=>e.1.v) ob
 hx:Pn ws=Fl (ls.take i)
theorem gk.len {ls:List VK} (s:gk ls):s.ws.length=s.i:=by
 have:=congrArg List.length s.hx
 have h:=s.le
 simp only [Pn,Fl,List.length_map,List.length_take] at this;omega
theorem xJ {ls:List VK} {ws:List W8} {i:Nat} {c:W8} (h:Pn ws=Fl (ls.take i)) (hi:i<ls.length) (e:JK c.2=JN (XJ (el ls i).2)):Pn (ws++[c])=Fl (ls.take (i+1)):=by
 have e1:Pn (ws++[c])=Pn ws++[JK c.2]:=by unfold Pn;rw [List.map_append];rfl
 rw [e1,h,e,ZJ hi];unfold Fl;rw [List.map_append];rfl
theorem zZ {ts:List XZ} {i:Nat} (h:i<ts.length):(el ts i).t=el (JK ts) i:=by rw [Zl h,Zl (by simpa [JK] using h)];simp [JK]
theorem OR (ts:List XZ) (i:Nat):JK (ts.take i)=(JK ts).take i:=by simp [JK,List.map_take]
theorem Lv {w:World} {F:Gs} {a:VK} {q:Option Addr} {n cap:Nat} {ls:List VK} {v u:Int} (hF:Fits F w) (hGl:JF F) (hP:YX F [a]) (hta:Vn a) (hR:JB F q n 1 (ls.map fun e=>e.1.v)) (hA:YX F ls) (hn:ls.length=n) (ht:∀ e∈ls,Vn e)
  (hv:0≤v∧v≤24) (hu:0≤u∧u≤24) (ha:X5 (XJ a.2) v=0) (hnv:(n:Int)=v+1) (hall:WR ls u=0) (ho:Il (Fl ls) (u+1).toNat (JN (XJ a.2))) :
  QT Tryz.prog 44 [a.1.v,.int .i64 v,.slice q n cap,.int .i64 u] w F (fun(c:VK)=>.tuple #[c.1.v,.int .i64 (Di (Wq (Fl ls) (u+1).toNat (JN (XJ a.2))))]) (fun c F=>Vm F c.1 c.2 (PU (Wq (Fl ls) (u+1).toNat (JN (XJ a.2))))):=by
 have haa:a∈[a]:=by simp
 have hcv:Zr v=0:=(VH v).2 hv
 have hcu:Zr u=0:=(VH u).2 hu
 have oa:=WA ha
 obtain ⟨_,ows⟩:=MP hall
 have la:(JN (XJ a.2)).length≤64:=by unfold JN;rw [List.length_map];exact oa.len
 have hpa:∀ t∈JN (XJ a.2),PW t.2:=oa.pw hv.2
 have hwd:∀ t∈JN (XJ a.2),t.2.length=n:=fun t ht=>by have:=oa.wide t ht;omega
 dsimp only [Sr.v]
 refine QT.intro (G:=fun F=>JF F∧YX F [a]∧JB F q n 1 (ls.map fun e=>e.1.v)∧YX F ls) Tryz.func44 rfl (by rfl) rfl rfl hF (fun F' hF'=>⟨hGl.le hF',hP.le hF',hR.le hF',hA.le hF'⟩)<|QG<|QB<|QA (QE rfl)<|QA (QE rfl)<|QF<|QC<|QG<|QG<|QB<|QA (QD rfl)<|QH rfl (fun w F hF ⟨hGl,hP,hR,hA⟩=>Gy hF ) (fun _=>QA (QD rfl)<|QH rfl (fun w F hF ⟨⟨hGl,hP,hR,hA⟩,_⟩=>Gy hF ) (fun _=>QW rfl (Q8 Zq) KC BI rfl rfl (fun b20=>QH rfl (fun w F hF ⟨⟨⟨⟨hGl,hP,hR,hA⟩,_⟩,_⟩,hs20⟩=>YE hF (JB.of (cs:=List.map Q3 [Zr v,Zr u]) hs20 rfl) (by decide)) (fun _=>QA (QE rfl)<|QF<|QC<|QG<|QB<|QA (QD rfl)<|QA (QU rfl rfl rfl)<|QF<|QC ?_))))
 refine QQ rfl (fun hc=>?_) (fun hc=>?_)
 ·exact absurd hc (by rw [hcv,hcu];decide)
 ·
  refine QP<|QC<|QG<|QG<|QB<|QA (QD rfl)<|QA (QD rfl)<|QH rfl (fun w F hF ⟨⟨⟨⟨⟨hGl,hP,hR,hA⟩,_⟩,_⟩,hs20⟩,_⟩=>B8 hF hGl ((hP a haa).1) ((hP a haa).2) (hta.1) (hta.2.1) (hta.2.2) (hv)) (fun _=>QA (QD rfl)<|QA (Qn rfl EI)<|QA (QD rfl)<|QA (Qu rfl rfl (by omega))<|QA (QU rfl rfl rfl)<|QH rfl (fun w F hF ⟨⟨⟨⟨⟨⟨hGl,hP,hR,hA⟩,_⟩,_⟩,hs20⟩,_⟩,_⟩=>Zz hF ) (fun _=>QW rfl (Q8 Zq) KC BI rfl rfl (fun b34=>QH rfl (fun w F hF ⟨⟨⟨⟨⟨⟨⟨⟨hGl,hP,hR,hA⟩,_⟩,_⟩,hs20⟩,_⟩,_⟩,_⟩,hs34⟩=>jY hF (JB.of (cs:=List.map Q3 [X5 (XJ a.2) v,if((n:Int) != v+1)=true then 2 else 0]) hs34 rfl) (by decide)) (fun _=>QA (QE rfl)<|QF<|QC<|QG<|QB<|QA (QD rfl)<|QA (QU rfl rfl rfl)<|QF<|QC ?_))))
  refine QQ rfl (fun hc=>?_) (fun hc=>?_)
  ·exact absurd hc (by rw [ha,if_neg (by simp [hnv])];decide)
  ·
   refine QP<|QC<|QG<|QG<|QB<|QA (QD rfl)<|QA (QD rfl)<|QH rfl (fun w F hF ⟨⟨⟨⟨⟨⟨⟨⟨⟨hGl,hP,hR,hA⟩,_⟩,_⟩,hs20⟩,_⟩,_⟩,_⟩,hs34⟩,_⟩=>BE hF hGl (hR) (hA) (hn) (by omega) (ht)) (fun _=>QA (QE rfl)<|QF<|QC<|QG<|QB<|QA (QD rfl)<|QA (QU rfl rfl rfl)<|QF<|QC ?_)
   refine QQ rfl (fun hc=>?_) (fun hc=>?_)
   ·exact absurd hc (by rw [hall];decide)
   ·
    refine QP<|QC<|QG<|QB<|QA (QE rfl)<|QF<|QC<|QG<|QG<|QB<|QA (QD rfl)<|QA (Qn rfl EI)<|QA (QD rfl)<|QF<|QC<|Qa<|J0 (ι:=gk ls) [(0,_),(3,_),(45,_),(46,_)] (fun i=>[(13,i.v),(47,.int .i64 ((i.i:Nat):Int))]) (fun i=>i.ob) (fun i F=>AB F i.ws) (fun i=>ls.length - i.i) (⟨0,_,[],[],Nat.zero_le _,.nil,rfl⟩) ⟨rfl,rfl,rfl,rfl,trivial⟩ ⟨rfl,rfl,trivial⟩ (List.Sublist.refl _) (fun _ _ _ h=>by cases h) (fun i=>?_)
    simp only [List.cons_append,List.nil_append]
    have hi:=i.le
    refine QG<|QB<|QA (QU rfl rfl rfl)<|QF<|QC<|QG ?_
    refine QQ rfl (fun hc=>?_) (fun hc=>?_)
    ·
     have hlt:i.i<ls.length:=by have:=of_decide_eq_true hc;omega
     have hem:=Je hlt
     refine QP<|QC<|QG<|Qa<|QG<|QB<|QA (JY (n:=n) (i.i) (fun F ⟨⟨⟨⟨⟨⟨⟨⟨⟨⟨⟨hGl,hP,hR,hA⟩,_⟩,_⟩,hs20⟩,_⟩,_⟩,_⟩,hs34⟩,_⟩,_⟩,hWs⟩=>hR) rfl rfl EI Ms (by omega))<|QA (Jf (n:=n) ((i.i)*1) (fun F ⟨⟨⟨⟨⟨⟨⟨⟨⟨⟨⟨hGl,hP,hR,hA⟩,_⟩,_⟩,hs20⟩,_⟩,_⟩,_⟩,hs34⟩,_⟩,_⟩,hWs⟩=>hR) (by omega) rfl Ms (Dt (f:=fun e:VK=>e.1.v) (l:=ls) (by omega)))<|QA (QE rfl)<|QF<|QC<|QB<|QA (QD rfl)<|QA (QD rfl)<|QH rfl (fun w F hF ⟨⟨⟨⟨⟨⟨⟨⟨⟨⟨⟨hGl,hP,hR,hA⟩,_⟩,_⟩,hs20⟩,_⟩,_⟩,_⟩,hs34⟩,_⟩,_⟩,hWs⟩=>Vs hF hGl (a:=el ls i.i) (hA _ hem).1 (hA _ hem).2 (ht _ hem) (ows _ hem) hu) (fun c53=>JJ _ (fun w F hF h=>h.2.2.2.1) (fun e53=>QW rfl (Q8 De) WS OK rfl rfl (fun b54=>?_)))
     rw [← List.append_nil i.ob]
     refine EA (n:=i.i) (k:=1) (sz:=1) (news:=[c53.1.v]) rfl rfl De WS OK rfl yi i.hr (Src.row (off:=0) (fun F ⟨⟨⟨⟨⟨⟨⟨⟨⟨⟨⟨⟨⟨hGl,hP,hR,hA⟩,_⟩,_⟩,hs20⟩,_⟩,_⟩,_⟩,hs34⟩,_⟩,_⟩,hWs⟩,h53⟩,hs54⟩=>hs54) (fun j v hv=>by rw [Nat.zero_add];rw [List.getElem?_toArray];exact hv) rfl) (by omega) (by omega) (fun v hv=>by rw [List.mem_singleton.1 hv];rfl) (fun v55 ob55 hr55=>?_)
     refine QA (QE rfl)<|QF<|Ql<|QC<|QB<|QA (Qu rfl rfl (by omega))<|QA (QD rfl)<|QF ?_
     exact Qo (⟨i.i+1,v55,ob55,i.ws++[c53],hlt,by rw [List.map_append];exact hr55,xJ i.hx hlt e53⟩) (by show ls.length - (i.i+1)<ls.length - i.i;omega) ⟨rfl,rfl,rfl,rfl,rfl,rfl,trivial⟩ (List.sublist_append_left _ _) (fun F ⟨⟨⟨hB,hWs⟩,h53⟩,_⟩=>⟨hB,fun e he=>by
   rcases List.mem_append.1 he with he | he
   ·exact hWs e he
   ·rw [List.mem_singleton.1 he,e53];exact h53⟩)
    ·
     have hge:i.i=ls.length:=by have:=of_decide_eq_false hc;omega
     refine Q5 ?_
     repeat (first | refine Qc ?_ | refine QX (by rfl) ?_)
     refine Qd<|QC<|QG<|QB ?_
     have hxl:=i.len
     have hwa:Pn i.ws=Fl ls:=by rw [i.hx,hge,List.take_length]
     obtain ⟨⟨rq,rn,rc⟩,hv2,hrn,hrc,hfix⟩:=Q7.fix (w0:=w) (F0:=F) (bs1:=[]) (G:=_) i.hr
     dsimp only at hrn hrc hfix
     subst hrn
     refine D9 hfix ?_
     rw [hv2]
     dsimp only [Sr.v]
     refine QA (QD rfl)<|QH rfl (fun w F hF ⟨⟨⟨⟨⟨⟨⟨⟨⟨⟨⟨⟨hGl,hP,hR,hA⟩,_⟩,_⟩,hs20⟩,_⟩,_⟩,_⟩,hs34⟩,_⟩,_⟩,hWs⟩,hrow⟩=>Vs hF hGl (a:=a) (hP a haa).1 (hP a haa).2 hta oa hv) (fun c58=>JJ _ (fun w F hF h=>And.intro h.2.2.2.1 h.2.len) (fun h58p=>?_))
     obtain ⟨e58,l58⟩:=h58p
     refine QA (QD rfl)<|QA (QD rfl)<|QA (Qu rfl rfl (by omega)) ?_
     rw [show(.int .i64 (u+1):Value) = .int .i64 ((((u+1).toNat:Nat)):Int) by rw [Int.toNat_of_nonneg (by omega)]]
     refine QH rfl (fun w F hF ⟨⟨⟨⟨⟨⟨⟨⟨⟨⟨⟨⟨⟨hGl,hP,hR,hA⟩,_⟩,_⟩,hs20⟩,_⟩,_⟩,_⟩,hs34⟩,_⟩,_⟩,hWs⟩,hrow⟩,h58⟩=>Av (k:=(u+1).toNat) (ts:=c58.2) (ws:=i.ws) hF hGl (by rw [e58];exact h58) hrow hWs hxl (by omega) (by omega)
      (XL (Q:=fun t=>t.2.length≤i.i∧PW t.2) e58 fun t ht=>⟨Nat.le_of_eq ((hwd t ht).trans (hge.trans hn).symm),hpa t ht⟩)
      (by rw [hwa];exact XL (Q:=fun t=>∀ j,j<t.2.length→DQ (D1 t.1 (Fl ls) t.2 (u+1).toNat j) (Wf (el (Fl ls) j) (u+1).toNat (Qf t.2 j).toNat) (u+1).toNat∧∀ i,i<(Qf t.2 j).toNat→DQ (Wf (el (Fl ls) j) (u+1).toNat i) (el (Fl ls) j) (u+1).toNat) e58 ho.mul)
      (fun j hj=>by rw [hwa,zZ hj,OR,e58];exact ho.add j (by omega))) (fun c62=>?_)
     refine JJ _ (fun w F hF h=>And.intro h.2.2.2.1 h.2.len) (fun h62p=>?_)
     obtain ⟨e62,l62⟩:=h62p
     rw [hwa,e58] at e62 l62
     refine QH rfl (fun w F hF ⟨⟨⟨⟨⟨⟨⟨⟨⟨⟨⟨⟨⟨⟨hGl,hP,hR,hA⟩,_⟩,_⟩,hs20⟩,_⟩,_⟩,_⟩,hs34⟩,_⟩,_⟩,hWs⟩,hrow⟩,h58⟩,h62⟩=>GJ hF (q:=c62.1.q) (n:=c62.1.n) (cap:=c62.1.cap) (ts:=c62.2) (by rw [e62];rw [hwa,e58] at h62;exact h62) hGl (XL e62 ho.pw) (XL (Q:=fun t=>JQ t.1≤100000000) e62 ho.sz) (by rw [l62];exact ho.len)) (fun c63=>?_)
     rw [e62]
     refine QA (QM rfl rfl)<|QA (QM rfl rfl)<|QA (QE rfl)<|QA (QE rfl)<|QF<|QC<|QR ?_
     exact Jb (c63) rfl (.tmp rfl (.tmp rfl .nil)) (rfl) (fun F ⟨_,h63⟩=>h63)
end
section
open Go.RowKit Ig
structure Open (F:Fence):Prop where
 fn:∀ f,F.fn f
 depth:F.depth=none
 calls:∀ {n:Nat} {P:Program} {f:FuncId} {args:Array Value} {w:World} {R:Ending→World→Prop},Calls P f args w R→CallsIn F n P f args w R
 rows:∀ {n:Nat} {P:Program} {row:String} {args:Array Value} {w:World} {R:Value→World→Prop},Rows P row args w R→RowsIn F n P row args w R
theorem Dl:Open Fence.wide where
 fn:=fun _=>trivial
 depth:=rfl
 calls:=fun h=>callsIn_wide.2 h
 rows:=fun h c cs _=>by
  obtain ⟨v,w',h1,h2⟩:=h c cs
  exact⟨v,w',h1,stepsIn_wide.2 h2⟩
theorem X6 (l:Nat):Open (Fence.wide.inRound l) where
 fn:=fun _=>trivial
 depth:=rfl
 calls:=fun h=>(callsIn_wide.2 h:CallsIn Fence.wide _ _ _ _ _ _)
 rows:=fun h=>Dl.rows h
section
variable {F:Fence} {P:Program}
theorem Open.op (hF:Open F) {o:Oper} (hnd:∀ c,o.op≠.defer c) {a:Act} {w:World} {K K':Act→World→Prop} {Q1 Q:Exit→Act→World→Prop} (hp:∀ c a w,Q1 (.panic c) a w→Q (.panic c) a w) (hl:∀ a w,Q1 .outgrown a w→Q .outgrown a w) (hK:∀ a w,K a w→K' a w) (h:o.wp P a w K Q1):o.wpIn F 0 P a w K' Q:=by
 unfold Oper.wp at h
 unfold Oper.wpIn
 refine⟨fun f _=>hF.fn f,?_⟩
 rw [Oper.semAt_plain F a.eval o hnd]
 generalize (execOp a.eval o).run P w=r at *
 have hd:F.depth.isSome=true→1≤0:=fun e=>by rw [hF.depth] at e;cases e
 cases r with
 |ok x w' =>
  cases x<;>simp only [Oper.upon,Oper.uponIn] at h ⊢ <;>
   first
    |exact hK _ _ h
    |exact⟨hd,hF.calls (h.mono fun e w'' he=>by
      cases e with
      |returned u=>exact hK _ _ he
      |panicked c=>exact hp _ _ _ he
      |outgrown=>obtain ⟨a,w,h⟩:=he;exact⟨a,w,hl _ _ h⟩)⟩
    |exact⟨hd,hF.rows (h.mono fun _ _ he=>hK _ _ he)⟩
 |halt x w'=>cases x<;>simp only [Oper.upon,Oper.uponIn] at h ⊢<;>exact hp _ _ _ h
def Wi (l:List Oper):Bool:=l.all fun o=>match o.op with | .defer _=>false | _=>true
theorem NU {o:Oper} (h:(match o.op with | .defer _=>false | _=>true)=true):∀ c,o.op≠.defer c:=fun c e=>by rw [e] at h;cases h
theorem Open.list (hF:Open F) {ops:Array Oper} {Q:Exit→Act→World→Prop} (hQ:¬ LetsOut Q):∀ (l:List Oper) (a:Act) (w:World),Wi l=true→wpList P ops Q l a w→wpListIn F 0 P ops Q l a w
 |[],_,_,_,h=>h
 |o::rest,a,w,hd,h=>by
  simp only [Wi,List.all_cons,Bool.and_eq_true] at hd
  unfold wpList at h
  unfold wpListIn
  split
  ·rename_i hw
   rw [if_pos hw] at h
   rcases h with h | ⟨_,h⟩
   ·exact hF.op (NU hd.1) (fun _ _ _ h=>h) (fun _ _ h=>h) (fun a w h=>hF.list hQ rest a w hd.2 h) h
   ·exact absurd h hQ
  ·rename_i hw
   rw [if_neg hw] at h
   exact⟨fun f _=>hF.fn f,hF.list hQ rest _ _ hd.2 h⟩
end
section
variable [Dr] [df:Df] {F:Fence} {P:Program} {Q:Exit→Act→World→Prop} {N:Nat} {m:Sl} {E:Env}
def JI (F:Fence) (P:Program) (c:Code) (Q:Exit→Act→World→Prop) (N:Nat) (m:Sl) (E:Env):Prop:=∀ a w,Jt N m a→St E w→c.wpIn F 0 P Q a w
theorem Gc {x y:Code} (h:JI F P x (Exit.then (y.wpIn F 0 P Q) Q) N m E):JI F P (.seq x y) Q N m E:=fun a w ha hw=>wpIn_seq (h a w ha hw)
theorem AH {id:Nat} {c:Code} (h:JI F P c (Exit.inBlock id Q) N m E):JI F P (.block id c) Q N m E:=fun a w ha hw=>wpIn_block (h a w ha hw)
theorem xe (h:Fin Q .normal N m E):JI F P .skip Q N m E:=fun a w ha hw=>wpIn_skip (h a w ha hw)
theorem Ih {c:Operand} {x y:Code} {t:Bool} (hc:ev m c=some (.bool t)) (ht:t=true→JI F P x Q N m E) (hf:t=false→JI F P y Q N m E):JI F P (.cond c x y) Q N m E :=
 fun a w ha hw=>wpIn_cond_split (ha.ev hc) (fun h=>ht h a w ha hw) (fun h=>hf h a w ha hw)
theorem ZU (hF:Open F) {id:Nat} {l:List Oper} (hQ:¬ LetsOut Q) (hd:Wi l=true) (h:JS P l.toArray Q l N m E):JI F P (.region id l.toArray false) Q N m E :=
 fun a w ha hw=>wpIn_region_lit (hF.list hQ l a w hd (h a w ha hw))
theorem V4 {y:Code} (h:JI F P y Q N m E):Fin (Exit.then (y.wpIn F 0 P Q) Q) .normal N m E:=h
section
variable {w0:World} {F0:Gs} {bs:List (Nat×Obj)} {G:Gs→Prop} {l:Nat} {r:Loop} {f:Obj→List (Nat×Obj)}
theorem St.put {w:World} (h:St ⟨w0,F0,bs,G⟩ w) {b:Nat} {o:Obj} (o':Obj) (ho:Own bs b o f) (hn:∀ c fr,o'≠.cells c 248 fr):St ⟨w0,F0,f o',G⟩ (w.putObj b o'):=by
 obtain ⟨pre,post,e1,e2⟩:=ho.split
 subst e1
 rw [e2]
 exact h.write pre ⟨rfl,rfl,rfl,rfl,rfl⟩ hn
theorem Ik {body:Code} {Qr:Exit→Act→World→Prop} (ho:Own bs l (.loop r) f) (hr:r.state = .ready) (k:JI F P body Qr N m ⟨w0,F0,f (.loop { r with state:=.busy }),G⟩) :
  Fin (Exit.then (fun a₁ w₁=>∃ w₂,(Instr.beginRound l).run P w₁ = .ok () w₂∧body.wpIn F 0 P Qr a₁ w₂) (fun _ _ _=>False)) .normal N m ⟨w0,F0,bs,G⟩ :=
 fun a w ha hw=>⟨_,run_beginRound (hw.own ho) hr,k a _ ha (hw.put _ ho (fun c fr e=>by cases e))⟩
theorem Ij {R:Ending→World→Prop} (ho:Own bs l (.loop r) f) (k:∀ w,St ⟨w0,F0,f (.loop { r with state:=.ready,pending:=none }),G⟩ w→R (.returned (.bool true)) w):Fin (roundPost P l R) .normal N m ⟨w0,F0,bs,G⟩ :=
 fun a w ha hw=>⟨_,_,run_endRound none (hw.own ho),k _ (hw.put _ ho (fun c fr e=>by cases e))⟩
end
end
section
variable [Dr] {P:Program} {w0:World} {F0:Gs} {bs:List (Nat×Obj)} {G:Gs→Prop} {l:Nat} {r:Loop} {f:Obj→List (Nat×Obj)}
def R4 (r:Loop) (vs:Array Value):Act:={ tmps:=(r.params.zip vs).foldl (fun tmps (t,a)=>tmps.setIfInBounds t a) r.tmps,defers:=[] }
theorem Mn {W:World} {vs:Array Value} {R:Ending→World→Prop} {N:Nat} {m:Sl} (hst:St ⟨w0,F0,bs,G⟩ W) (ho:Own bs l (.loop r) f) (hsz:vs.size=r.params.size) (hsl:Jt N m (R4 r vs))
  (h:JI (Fence.wide.inRound l) P r.assign (Exit.then (fun a₁ w₁=>∃ w₂,(Instr.beginRound l).run P w₁ = .ok () w₂∧r.body.wpIn (Fence.wide.inRound l) 0 P (roundPost P l R) a₁ w₂) (fun _ _ _=>False)) N m ⟨w0,F0,bs,G⟩) :
  YieldAt Fence.wide 0 P l vs W R :=
 ⟨_,_,_,_,run_yield (hst.own ho) hsz,roundIn_of_wpIn trivial (h _ W hsl hst)⟩
end
section
variable [Dr] [df:Df] {P:Program} {Q:Exit→Act→World→Prop} {N:Nat} {m:Sl} {E E0:Env} {ops:Array Oper} {l:List Oper} {w0:World} {F0:Gs} {bs:List (Nat×Obj)} {G:Gs→Prop}
def va (P:Program) (ops:Array Oper) (Q:Exit→Act→World→Prop) (l:List Oper) (N:Nat) (m:Sl) (E:Env):Prop:=∀ a w,Jt N m a→St E w→wpListIn Fence.wide 0 P ops Q l a w
theorem y5 (hQ:¬ LetsOut Q) (hd:Wi l=true) (h:JS P ops Q l N m E):va P ops Q l N m E:=fun a w ha hw=>Dl.list hQ l a w hd (h a w ha hw)
theorem OF {x:Operand} {d r:Nat} {args:Array Operand} {tys:Array TypeId} {vs:List Value} {ty:TypeId} {pos:String} {aft:Array Edge} {ι:Type} {E':ι→Env} (hx:ev m x=some (.func (.yield r) #[] #[])) (hv:Et m args.toList=some vs)
  (hy:∀ w,St E w→YieldAt Fence.wide 0 P r vs.toArray w fun e w'=>e = .returned (.bool true)∧∃ s,St (E' s) w')
  (k:∀ s,va P ops Q l N ((d,.bool true)::m) (E' s)) (hd:J7 N (some d)=true:=by rfl):va P ops Q (⟨some d,.call ⟨.value x,args,tys⟩,ty,pos,aft,none⟩::l) N m E:=by
 intro a w ha hw
 refine wpListIn_plain rfl fun K hK=>?_
 obtain ⟨fn,tmps,assign,body,hr,hR⟩:=hy w hw
 refine⟨fun f _=>trivial,?_⟩
 have e2:args.map a.eval=vs.toArray:=by rw [← ha.Et hv];apply Array.ext';simp
 have hrun:(execOp a.eval ⟨some d,.call ⟨.value x,args,tys⟩,ty,pos,aft,none⟩).run P w = .ok (.round r fn tmps assign body) w:=by
  simp only [execOp,resolve,ha.ev hx,Deferred.ofValue,Sem.run_bind,Sem.run_pure,Result.andThen_ok,invoke,e2]
  simpa using hr
 rw [Oper.semAt_plain Fence.wide a.eval _ (fun c e=>by cases e),hrun]
 refine⟨fun e=>(by cases e),hR.mono ?_⟩
 rintro e w' ⟨rfl,s,hs⟩
 exact hK _ _ (k s _ w' (ha.put hd (.bool true)) hs)
theorem qd {ops':Array Oper} {l':List Oper} (h:va P ops' Q l' N m E):JD P ops (Xy (fun a w=>wpListIn Fence.wide 0 P ops' Q l' a w)) E0 [] N m E:=fun _=>h
section
variable {md:Region.Mode}
theorem AR {l:List Oper} {n i:Nat} {K0 K:Act→World→Prop} {a:Act} {w:World} (hi:i<n) (hgd:B3 l.toArray n=true) (hnd:Wi l=true)
  (h:wpOp P (l.take n).toArray (Xy K0) i K a w):wpOpIn Fence.wide 0 P l.toArray Q i K a w:=by
 unfold wpOp at h
 unfold wpOpIn
 rw [GP hi] at h
 cases ho:l.toArray[i]? with
 |none=>simp only [ho] at h ⊢;exact h
 |some o =>
  simp only [ho] at h ⊢
  have hw:Region.wanted o (yielded (l.take n).toArray a.tmps)=Region.wanted o (yielded l.toArray a.tmps):=by
   have h1:=List.all_eq_true.1 hgd i (List.mem_range.2 hi)
   rw [ho] at h1
   unfold Region.wanted
   cases hg:o.guard with
   |none=>rfl
   |some gw =>
    obtain ⟨g,want⟩:=gw
    simp only [hg] at h1
    simp only [BK (l:=l) (by simpa using h1)]
  rw [hw] at h
  have hmem:o∈l:=by
   have:l[i]?=some o:=by simpa using ho
   exact List.mem_of_getElem? this
  split
  ·rename_i hw2
   rw [if_pos hw2] at h
   rcases h with h | ⟨_,h2⟩
   ·exact Dl.op (NU (List.all_eq_true.1 hnd o hmem)) (fun _ _ _ h=>h.elim) (fun _ _ h=>h.elim) (fun _ _ h=>h) h
   ·obtain ⟨_,_,h2⟩:=h2;exact h2.elim
  ·rename_i hw2
   rw [if_neg hw2] at h;exact⟨fun _ _=>trivial,h⟩
theorem BL {ops:Array Oper}:∀ (f:Nat) (listed:Array Bool) (a:Act) (w:World),wpAnyIn Fence.wide 0 P md ops Q f listed a w→wpAnyIn Fence.wide 0 P md ops Q (f+1) listed a w
 |0,listed,a,w,h=>⟨fun _=>h.2,fun i hi=>(by rw [h.1] at hi;cases hi)⟩
 |f+1,listed,a,w,h=>⟨h.1,fun i hi=>wpOpIn_mono (fun a' w' h'=>BL f _ a' w' h') (h.2 i hi)⟩
theorem PS {ops:Array Oper} (f:Nat) (listed:Array Bool) (a:Act) (w:World) (g:Nat) (h:wpAnyIn Fence.wide 0 P md ops Q g listed a w):wpAnyIn Fence.wide 0 P md ops Q (f+g) listed a w:=by
 induction f with
 |zero=>rw [Nat.zero_add];exact h
 |succ f ih=>rw [show f+1+g=(f+g)+1 by omega];exact BL _ _ _ _ ih
theorem W9:∀ (l:List Oper) (k:Nat) (listed:Array Bool) (a:Act) (w:World),(∀ j,l[j]?=ops[k+j]?) →
  Region.seqB md ops l.length k listed=true→wpListIn Fence.wide 0 P ops Q l a w→wpAnyIn Fence.wide 0 P md ops Q l.length listed a w
 |[],_,_,_,_,_,hB,h=>⟨by simpa [Region.seqB] using hB,h⟩
 |o::l,k,listed,a,w,hl,hB,h=>by
  have h0:ops[k]?=some o:=by simpa using (hl 0).symm
  simp only [List.length_cons,Region.seqB,Bool.and_eq_true,decide_eq_true_eq] at hB
  refine⟨fun h1=>(by rw [hB.1] at h1;cases h1),fun i hi=>?_⟩
  rw [hB.1] at hi
  have hik:i=k:=by simpa using hi
  subst hik
  have hw:wpOpIn Fence.wide 0 P ops Q i (wpListIn Fence.wide 0 P ops Q l) a w:=by unfold wpOpIn;simp only [h0];exact h
  exact wpOpIn_mono (fun a' w' h'=>W9 l (i+1) _ a' w' (fun j=>by have:=hl (j+1);simpa [Nat.add_assoc,Nat.add_comm 1 j] using this) hB.2 h') hw
theorem PR {l:List Oper} {n:Nat} (hn:n<l.length) (hs:Region.sinkB md l.toArray n=true) (hc:Region.chainB md l.toArray n=true) (ho:KX md l.toArray n=true)
  (hgd:B3 l.toArray n=true) (hseq:Region.seqB md l.toArray (l.length - n) n (Z2 n l.length)=true) (hnd:Wi l=true) :
  ∀ (f:Nat) (lh la:Array Bool) (a:Act) (w:World),HeadInv md l.toArray n la→lh.size=n→(∀ i,i<n→la.getD i true=lh.getD i true) →
   wpAny P md (l.take n).toArray (Xy (fun a w=>wpListIn Fence.wide 0 P l.toArray Q (l.drop n) a w)) f lh a w→wpAnyIn Fence.wide 0 P md l.toArray Q (f+(l.length - n)) la a w:=by
 have fin:∀ (f:Nat) (lh la:Array Bool) (a:Act) (w:World),HeadInv md l.toArray n la→lh.size=n→(∀ i,i<n→la.getD i true=lh.getD i true) →
   Region.ready md (l.take n).toArray lh=[]→wpListIn Fence.wide 0 P l.toArray Q (l.drop n) a w→wpAnyIn Fence.wide 0 P md l.toArray Q (f+(l.length - n)) la a w:=by
  intro f lh la a w inv hsz hrel hr h
  have hall:∀ i,i<n→lh.getD i true=true:=by
   intro i hi
   cases hv:lh.getD i true with
   |true=>rfl
   |false=>exact absurd hr (WZ hn hs hc ho inv hsz hrel hi hv).2
  have hla:la=Z2 n l.length:=by
   refine EU (by simpa using inv.size) (fun i hi hi2=>?_) (fun i hi hi2=>?_)
   ·have h1:=(hrel i hi).trans (hall i hi)
    have h2:i<la.size:=by rw [inv.size];simpa using hi2
    simp [h2] at h1 ⊢;exact h1
   ·exact getD_both (inv.tail i hi (by simpa using hi2))
  subst hla
  refine PS f _ _ _ _ ?_
  have:=W9 (P:=P) (Q:=Q) (md:=md) (ops:=l.toArray) (l.drop n) n (Z2 n l.length) a w (fun j=>by simp [List.getElem?_drop]) (by simpa using hseq) h
  simpa using this
 intro f
 induction f with
 |zero=>intro lh la a w inv hsz hrel h;exact fin 0 lh la a w inv hsz hrel h.1 h.2
 |succ f ih =>
  intro lh la a w inv hsz hrel h
  by_cases hr:Region.ready md (l.take n).toArray lh=[]
  ·exact fin (f+1) lh la a w inv hsz hrel hr (h.1 hr)
  ·obtain ⟨k,hk⟩:=List.exists_mem_of_ne_nil _ hr
   have hk2:=(mem_ready.1 hk)
   have hkn:k<n:=by
    obtain ⟨_,o,ho',_⟩:=hk2
    have:=(Array.getElem?_eq_some_iff.1 ho').1
    simp at this;omega
   have hiff:=(WZ hn hs hc ho inv hsz hrel hkn hk2.1).1
   rw [show f+1+(l.length - n)=(f+(l.length - n))+1 by omega]
   refine⟨fun h0=>absurd ((hiff k).2 hk) (by rw [h0];simp),fun i hi=>?_⟩
   have hi':=(hiff i).1 hi
   have hin:i<n:=by
    obtain ⟨_,o,ho',_⟩:=mem_ready.1 hi'
    have:=(Array.getElem?_eq_some_iff.1 ho').1
    simp at this;omega
   have h2:=AR (Q:=Q) hin hgd hnd (h.2 i hi')
   refine wpOpIn_mono (fun a' w' h3=>ih _ _ a' w' (inv.set hi hin) (by simpa using hsz) (fun j hj=>?_) h3) h2
   by_cases hij:i=j
   ·subst hij
    have h1:i<la.size:=by rw [inv.size];simp;omega
    have h2:i<lh.size:=by omega
    simp [h1,h2]
   ·rw [getD_set_ne true hij,getD_set_ne true hij];exact hrel j hj
theorem S8 {id:Nat} {l:List Oper} {bs0:List (Nat×Obj)} (n:Nat) (hb0:bs0.Sublist bs) (hm:P.follows .mixedOrders=true) (hB:Ht l n=true) (hB2:lexB .any (l.take n)=true) (hnd:Wi l=true)
  (h:JD P (l.take n).toArray (Xy (fun a w=>wpListIn Fence.wide 0 P l.toArray Q (l.drop n) a w)) ⟨w0,F0,bs0,G⟩ (l.take n) N m ⟨w0,F0,bs,G⟩):J P (.region id l.toArray true) Q N m ⟨w0,F0,bs,G⟩:=fun a w ha hw=>by
 have h1:=h (fun _ h=>h.imp hb0 fun _ h=>h) a _ ha hw.drew
 have h2:=V6 (P:=P) (S:=St ⟨w0,F0,bs0,G⟩) hB2 (fun c a w h=>h) (hw.drew.imp hb0 fun _ h=>h) h1
 simp only [Ht,Bool.and_eq_true,decide_eq_true_eq] at hB
 obtain ⟨⟨⟨⟨⟨hn,hs⟩,hc⟩,ho⟩,hg⟩,hseq⟩:=hB
 refine(wpIn_wide (n:=0)).1 (wpIn_region_any hm ?_)
 have inv0:HeadInv .any l.toArray n (Array.replicate l.toArray.size false) :=
  ⟨by simp,fun j oj _ hl=>(by rw [getD_replicate_false] at hl;cases hl),fun t _ ht=>getD_in (by simpa using ht) (getD_replicate_false _ _)⟩
 have e:(l.take n).length=n:=by simp;omega
 rw [e] at h2
 have:=PR (P:=P) (md:=.any) (Q:=Q) hn hs hc ho hg hseq hnd n (Array.replicate n false) (Array.replicate l.toArray.size false) a { w with drawn:=w.drawn+1 } inv0 (by simp)
  (fun i hi=>by
   have h1:i<l.length:=(by omega)
   simp [hi,h1]) h2
 rw [show n+(l.length - n)=l.toArray.size by simp;omega] at this
 exact this
end
end
section
variable [Dr] {P:Program} {Q:Exit→Act→World→Prop} {N:Nat} {m:Sl} {w0:World} {F0:Gs} {bs:List (Nat×Obj)} {G:Gs→Prop}
@[reducible] def H6 (D:Nat):Df:=⟨[{ target:=.collected D,args:=#[] }]⟩
structure qc (N:Nat) (m:Sl) (ps:Array Tmp) (assign body:Code) (r:Loop):Prop where
 state:r.state = .ready
 dH:r.pending=none
 params:r.params=ps
 assign:r.assign=assign
 body:r.body=body
 kQ:Jt (df:=VV) N m { tmps:=r.tmps,defers:=[] }
theorem AE {g:Operand} {ps:Array Tmp} {assign body:Code} {gf:Nat} {lb:Array Value} {ι:Type} (B:ι→List (Nat×Obj)) (R:ι→Gs→Prop) (Dn:ι→Prop) (hg:ev m g=some (.func (.func gf) #[] lb)) (he:Enters P gf)
  (hcall:∀ (L D:Nat) (r:Loop) (w:World),qc N m ps assign body r→St ⟨w0,F0,(L,.loop r)::(D,.deferred (some []))::bs,G⟩ w →
   Calls P gf (#[.func (.yield L) #[] #[]]++lb) w fun e w'=>(∃ v,e = .returned v)∧∃ s,Dn s∧St ⟨w0,F0,(L,.loop r)::(D,.deferred (some []))::B s,fun F=>G F∧R s F⟩ w')
  (k:∀ D s,Dn s→Fin (df:=H6 D) Q .normal N m ⟨w0,F0,(D,.deferred (some []))::B s,fun F=>G F∧R s F⟩):J (df:=VV) P (.rangeFunc g ps assign body) Q N m ⟨w0,F0,bs,G⟩:=fun a w ha hw=>by
 refine(wpIn_wide (n:=0)).1 (wpIn_rangeFunc fun fn _=>?_)
 obtain ⟨r,hr⟩:∃ r:Loop,r={ state:=.ready,pending:=none,fn,tmps:=a.tmps,params:=ps,assign,body,defers:=w.heap.size }:=⟨_,rfl⟩
 have hs1:St ⟨w0,F0,(w.heap.size+1,.loop r)::(w.heap.size,.deferred (some []))::bs,G⟩ ((w.alloc (.deferred (some []))).alloc (.loop r)):=by
  have h1:=hw.alloc (.deferred (some [])) (fun c fr e=>by cases e)
  have h2:=h1.alloc (.loop r) (fun c fr e=>by cases e)
  rwa [World.size_alloc] at h2
 have hd:a.defers=[]:=ha.df
 refine⟨w.heap.size+1,[{ target:=.collected w.heap.size,args:=#[] }],(w.alloc (.deferred (some []))).alloc (.loop r),{ target:=.fn (.func gf) lb,args:=#[.func (.yield (w.heap.size+1)) #[] #[]] },(w.alloc (.deferred (some []))).alloc (.loop r),gf,
  #[.func (.yield (w.heap.size+1)) #[] #[]]++lb,(w.alloc (.deferred (some []))).alloc (.loop r),?_,?_,fun _ _=>trivial,?_,fun e=>(by cases e),?_⟩
 ·rw [hr];exact run_enterLoop_outer _ _ _ _ _
 ·simp only [resolve,ha.ev hg]
  simp [go_sem]
 ·simpa [invoke,go_sem] using he _ _
 ·refine(callsIn_wide.2 (hcall _ _ r _ ⟨by rw [hr],by rw [hr],by rw [hr],by rw [hr],by rw [hr],⟨by rw [hr];exact ha.size,rfl,by rw [hr];exact ha.get⟩⟩ hs1)).mono ?_
  rintro e w' ⟨⟨v,rfl⟩,s,hdn,hs⟩
  have hl:w'.heap[w.heap.size+1]?=some (.loop r):=hs.own .here
  refine⟨none,w'.putObj (w.heap.size+1) (.loop { r with state:=.exhausted }),?_,k w.heap.size s hdn _ _ (Jt.mk (df:=H6 w.heap.size) (Jt.size (df:=VV) (a:=a) ha) ?_ (fun t v h=>Jt.get (df:=VV) (a:=a) ha t v h)) ?_⟩
  ·rw [run_endLoop hl (by rw [hr];intro e;cases e)]
   rw [hr]
  ·show _++a.defers=_
   rw [hd];rfl
  ·exact(hs.put (.loop { r with state:=.exhausted }) .here (fun c fr e=>by cases e)).imp (.cons _ (List.Sublist.refl _)) fun _ h=>h
theorem vA {c:Code} (h:∀ G':Gs→Prop,(∀ F,G' F→G F)→J (df:=VV) P c Q N m ⟨w0,F0,bs,G'⟩):J (df:=VV) P c Q N m ⟨w0,F0,bs,G⟩:=h G fun _ h=>h
theorem QT.yR {f:FuncId} {fn:Func} {c:Code} {args:List Value} {w:World} {F:Gs} {γ:Type} {val:γ→Value} {fact:γ→Gs→Prop} {G:Gs→Prop} (hf:P.funcs[f]?=some fn) (hb:fn.body=some c) (hn:(fn.name == "runtime.NumGoroutine")=false) (hN:fn.ntmps=N) (hl:Nat.ble args.length N=true)
  (hw:Fits F w) (hg:∀ F',Gs.le F F'→G F') (h:J (df:=VV) P c (bodyPostM Fence.wide 0 P fn (En w F val fact)) N (PD 0 args) ⟨w,F,[],G⟩):QT P f args w F val fact:=by
 refine⟨enters_of hf hn (by rw [hb];rfl),callsIn_wide.1 (callsIn_of_wp_marks hf hb trivial (wpIn_wide.2 (h _ w ⟨?_,rfl,fun t v ht=>?_⟩ (St.start hw hg))))⟩
 ·have:=Nat.le_of_ble_eq_true hl
  simp [hN];omega
 ·obtain ⟨_,h2⟩:=Wj args 0 t v ht
  have hlt:t<args.length:=by rcases Nat.lt_or_ge t args.length with g | g;exact g;rw [Nat.sub_zero,List.getElem?_eq_none g] at h2;cases h2
  simp only [Nat.sub_zero] at h2
  rw [Array.getElem?_append,if_pos (by simpa using hlt)]
  simpa using h2
theorem qe {fn:Func} {R:Ending→World→Prop} {E:Env} (h:Fin (df:=VV) (bodyPost P fn R) .ret N m E):Fin (df:=VV) (bodyPostM Fence.wide 0 P fn R) .ret N m E:=fun a w ha hw=>by
 obtain ⟨h1,v,h2,h3⟩:=h a w ha hw
 show LeavesInM Fence.wide 0 P fn a.tmps R a.defers .returning w
 rw [h1]
 exact⟨v,h2,h3⟩
theorem y7 {fn:Func} {R:Ending→World→Prop} {D:Nat} {f:Obj→List (Nat×Obj)} (ho:Own bs D (.deferred (some [])) f) (h:Fin (df:=VV) (bodyPost P fn R) .ret N m ⟨w0,F0,f (.deferred none),G⟩):Fin (df:=H6 D) (bodyPostM Fence.wide 0 P fn R) .ret N m ⟨w0,F0,bs,G⟩:=fun a w ha hw=>by
 have h1:=h { tmps:=a.tmps,defers:=[] } _ (Jt.mk (df:=VV) (Jt.size (df:=H6 D) (a:=a) ha) rfl (fun t v h=>Jt.get (df:=H6 D) (a:=a) ha t v h)) (hw.put (.deferred none) ho (fun c fr e=>by cases e))
 obtain ⟨_,v,h2,h3⟩:=h1
 show LeavesInM Fence.wide 0 P fn a.tmps R a.defers .returning w
 rw [show a.defers=[{ target:=.collected D,args:=#[] }] from Jt.df (df:=H6 D) ha]
 exact⟨fun e=>(by cases e),.inl ⟨D,_,rfl,run_takeDeferred (hw.own ho),v,h2,h3⟩⟩
end
end
section
open Go.RowKit Ig
abbrev xh (n:Nat):={ l:List Int // l.length=n }
def Ve {n:Nat} (x:xh n):Value:=.agg (x.1.map Q3).toArray
theorem xU {a b:List Int} {n:Nat} (ha:a.length=n) (hb:b.length=n):((List.range n).all fun j=>Qf a j==Qf b j)=decide (a=b):=by
 rw [Bool.eq_iff_iff,decide_eq_true_iff,List.all_eq_true]
 constructor
 ·intro h
  apply List.ext_getElem (by omega)
  intro i h1 h2
  have:=h i (List.mem_range.2 (by omega))
  simpa [Qf,h1,h2] using this
 ·intro h j _;rw [h];simp
section
variable {P:Program} {e:TypeId}
theorem NN (he:P.underlying e=some (.int .i64)) (w:World) {xs:List Int} {j:Nat} (h:j<xs.length):(part e (xs.map Q3).toArray j).run P w = .ok (Q3 (Qf xs j)) w:=by
 have e1:(xs.map Q3).toArray[j]?=some (Q3 (Qf xs j)):=by simp [h,Qf]
 simp [part,isAgg,run_underlying he,e1]
theorem eqItems_ints (he:P.underlying e=some (.int .i64)) (w:World) (d:Nat) {xs ys:List Int}:∀ (is:List Nat),(∀ j∈is,j<xs.length∧j<ys.length) →
  (Op.eqItems (d+1) e 1 (xs.map Q3).toArray (ys.map Q3).toArray is).run P w = .ok (is.all fun j=>Qf xs j==Qf ys j) w
 |[],_=>by simp [Op.eqItems]
 |j::is,h=>by
  have h1:=h j (by simp)
  simp only [Op.eqItems,Sem.run_bind,Nat.mul_one,NN he w h1.1,NN he w h1.2,Result.andThen_ok]
  rw [show Q3 (Qf xs j) = .int .i64 (Qf xs j) from rfl,show Q3 (Qf ys j) = .int .i64 (Qf ys j) from rfl,run_equalIn_int w d e .i64 .i64 _ _ he]
  simp only [Result.andThen_ok,List.all_cons]
  cases Qf xs j==Qf ys j
  ·simp
  ·simpa using eqItems_ints he w d is fun j hj=>h j (by simp [hj])
theorem equal_arr {kt:TypeId} {n:Nat} (hu:P.underlying kt=some (.array n e)) (he:P.underlying e=some (.int .i64)) (hc:P.cellsOf e=1) (w:World) (a b:xh n):(Op.equal kt (Ve a) (Ve b)).run P w = .ok (decide (a=b)) w:=by
 obtain ⟨i,hi⟩:=info_of_underlying he
 unfold Ve
 show(Op.equalIn (9999+1) kt _ _).run P w=_
 rw [run_equalIn_array w 9999 _ _ hu hi,hc,eqItems_ints he w 9998 _ (fun j hj=>⟨by rw [a.2];exact List.mem_range.1 hj,by rw [b.2];exact List.mem_range.1 hj⟩),xU a.2 b.2]
 congr 1
 simp [Subtype.ext_iff]
theorem EW {kt:TypeId} {n:Nat} (hu:P.underlying kt=some (.array n e)) (he:P.underlying e=some (.int .i64)) (hc:P.cellsOf e=1) (w:World) (k:xh n):∀ (l:List (xh n×Value)) (m i:Nat),
  (Instr.findAsking kt (Ve k) (XT Ve l m) i).run P w = .ok (Z4 l k i) w
 |[],_,_=>by simp [XT,Instr.findAsking,Z4]
 |x::l,m,i=>by
  simp only [XT,Instr.findAsking,Sem.run_bind,equal_arr hu he hc,Result.andThen_ok,Z4]
  by_cases h:k=x.1
  ·simp [h]
  ·simp [h,EW hu he hc w k l]
theorem Ly {kt:TypeId} {n:Nat} (hu:P.underlying kt=some (.array n e)) (he:P.underlying e=some (.int .i64)) (hc:P.cellsOf e=1) (em:Bool) (w:World) (k:xh n):(Instr.checkKey em 10000 kt (Ve k)).run P w = .ok () w:=by
 obtain ⟨i,hi⟩:=info_of_underlying he
 rw [show 10000=9999+1 from rfl,Instr.checkKey]
 unfold Ve
 simp only [Sem.run_bind,run_underlying hu,Result.andThen_ok]
 simp only [Std.Legacy.Range.forIn_eq_forIn_range',Std.Legacy.Range.size,Nat.sub_zero,Nat.add_one_sub_one,Nat.div_one]
 have hj:∀ j∈List.range' 0 n,j<k.1.length:=fun j hj=>by rw [k.2];simpa using hj
 generalize List.range' 0 n=is at hj
 induction is with
 |nil=>simp
 |cons j is ih =>
  have p2:(Instr.checkKey em 9999 e (Q3 (Qf k.1 j))).run P w = .ok () w:=MapKept.run_checkKey he (by simp [MapKept.IsKey,Q3]) em 9998
  simp only [List.forIn_cons,Sem.run_bind,run_sizeOf w hi,Result.andThen_ok,hc,Nat.mul_one,NN he w (hj j (by simp)),p2,Sem.run_pure]
  exact ih fun j hj'=>hj j (by simp [hj'])
theorem Om {n:Nat} (k:xh n):Instr.sameBits 10000 (Ve k) (Ve k)=true:=by
 unfold Ve
 rw [show 10000=9999+1 from rfl,Instr.sameBits]
 simp only [beq_self_eq_true,Bool.true_and,List.all_eq_true]
 intro x hx
 obtain ⟨l,hl⟩:=k
 simp only at hx
 have:∀ (l:List Int) (x:Value×Value),x∈(l.map Q3).zip (l.map Q3)→Instr.sameBits 9999 x.1 x.2=true:=by
  intro l
  induction l with
  |nil=>intro x hx;cases hx
  |cons a l ih =>
   intro x hx
   rw [List.map_cons,List.zip_cons_cons] at hx
   rcases List.mem_cons.1 hx with rfl | hx
   ·simp [Q3,Instr.sameBits]
   ·exact ih x hx
 exact this l x hx
theorem S7.arr {kt:TypeId} {n:Nat} (hu:P.underlying kt=some (.array n e)) (he:P.underlying e=some (.int .i64)) (hc:P.cellsOf e=1):S7 P kt (Ve (n:=n)) where
 kC:=fun em w k=>Ly hu he hc em w k
 find:=fun w k l=>by
  cases l with
  |nil=>simp [Instr.findKey,run_underlying hu,XT,Instr.findNow,Z4]
  |cons x l =>
   have:Instr.findNow (.array n e) (Ve k) (XT Ve (x::l) 0) 0=none:=by simp [XT,Instr.findNow,Instr.sameNow]
   simp only [Instr.findKey,Sem.run_bind,run_underlying hu,Result.andThen_ok,this]
   exact EW hu he hc w k (x::l) 0 0
 same:=Om
theorem equal_txs {t:TypeId} {f1 f2:Field} (ht:P.underlying t=some (.struct (P.fieldsOf t))) (hp:P.stoodInHeld t=false) (hf:(P.fieldsOf t).toList=[f1,f2]) (h1:f1.name ≠ "_" ∧ f1.offset=0∧P.underlying f1.type=some .string) (h2:f2.name ≠ "_" ∧ f2.offset=1∧P.underlying f2.type=some .string) (w:World) (a b c d:List UInt8) :
  (Op.equal t (.agg #[tx a,tx b]) (.agg #[tx c,tx d])).run P w = .ok (decide (a=c)&&decide (b=d)) w:=by
 have hs:∀ (f:TypeId),P.underlying f=some .string→∀ x y:List UInt8,(Op.equalIn 9999 f (tx x) (tx y)).run P w = .ok (decide (x=y)) w:=fun f hf x y=>by
  rw [show(9999:Nat)=9998+1 from rfl,show tx x = .string ⟨x.toArray⟩ from rfl,show tx y = .string ⟨y.toArray⟩ from rfl,run_equalIn_string w 9998 f _ _ hf]
  congr 1
  rw [ByteArray.toList_eq,ByteArray.toList_eq,Bool.eq_iff_iff]
  simp
 show(Op.equalIn (9999+1) t _ _).run P w=_
 rw [run_equalIn_struct w 9999 t _ _ ht hp,hf]
 have p1:∀ x y:List UInt8,(part f1.type #[tx x,tx y] 0).run P w = .ok (tx x) w:=fun x y=>by simp [part,isAgg,run_underlying h1.2.2]
 have p2:∀ x y:List UInt8,(part f2.type #[tx x,tx y] 1).run P w = .ok (tx y) w:=fun x y=>by simp [part,isAgg,run_underlying h2.2.2]
 simp only [Op.eqFields,h1.1,h2.1,h1.2.1,h2.2.1,ne_eq,not_false_eq_true,if_true,Sem.run_bind,p1,p2,hs f1.type h1.2.2,hs f2.type h2.2.2,Result.andThen_ok]
 by_cases e1:a=c<;>by_cases e2:b=d<;>simp [e1,e2,p2,hs f2.type h2.2.2]
end
end
section
open Go.RowKit Ig
def ki (P:Program) (T:TypeId):Option (Nat×TypeId):=match P.underlying T with | some (.array n e)=>some (n,e) | _=>none
theorem zN {P:Program} {T e:TypeId} {n:Nat} (h:ki P T=some (n,e)):P.underlying T=some (.array n e):=by
 unfold ki at h
 split at h
 ·rename_i hu;cases h;exact hu
 ·cases h
section
variable [Dr] [df:Df] {P:Program} {N:Nat} {m:Sl} {S:World→Prop} {ty:TypeId}
theorem O9 {T e:TypeId} {x y:Operand} {b off n sz i:Nat} {g:Bool} (hx:ev m x=some (.pointer (some ⟨b,off,none⟩))) (hy:ev m y=some (.int .i64 (i:Int))) (hT:ki P T=some (n,e)) (hs:YR P e=some (g,sz)) (hi:i<n):Qt P N m S (.indexAddr T x y) ty (.pointer (some ⟨b,off+i*sz,none⟩)):=fun a w _ _ _ _ ha _=>by
 simp [execOp,ha.ev hx,ha.ev hy,Instr.indexAt,asIntOf,Instr.sureAddr,run_underlying (zN hT),YS hs,hi,Vg]
theorem Ap {T e:TypeId} {x y:Operand} {b n sz h:Nat} {g:Bool} (hx:ev m x=some (.pointer (some ⟨b,0,none⟩))) (hy:ev m y=some (.int .i64 (h:Int))) (hT:ki P T=some (n,e)) (hs:YR P e=some (g,sz)) (hh:h≤n):Qt P N m S (.slice T x none (some y) none) ty (.slice (some ⟨b,0,none⟩) h n):=fun a w _ _ _ _ ha _=>by
 simp [execOp,ha.ev hx,ha.ev hy,Instr.sliceAt,asIntOf,Instr.sureAddr,Instr.sliceBounds,Instr.sliceBound,run_underlying (zN hT),YS hs,hh,Vg]
end
theorem qQ:ki Tryz.prog 160=some (25,3):=by kernel_rfl
def YM (l:List Int):xh 25:=⟨(List.range 25).map (Qf l),by simp⟩
def Hj (a b:List Int) (i:Nat):List Int:=(List.range 25).map fun j=>if j<i then Qf a j+Qf b j else 0
theorem LK {a b:List Int} {i:Nat} (h:i<25):(Hj a b i).set i (Qf a i+Qf b i)=Hj a b (i+1):=by
 unfold Hj
 apply List.ext_getElem (by simp)
 intro j h1 h2
 simp only [List.length_set,List.length_map,List.length_range] at h1
 rw [List.getElem_set]
 simp only [List.getElem_map,List.getElem_range]
 split
 ·rename_i e;subst e;simp
 ·rename_i e
  by_cases g:j<i
  ·simp [g,show j<i+1 by omega]
  ·simp [g,show ¬ j<i+1 by omega]
theorem LL {a b:List Int} {n:Nat} (ha:a.length=n) (hb:b.length=n):Hj a b n=(YM (Xu a b)).1:=by
 unfold Hj YM
 apply List.map_congr_left
 intro j hj
 split
 ·rename_i g
  simp [Qf,Xu,ha,hb,g]
 ·rename_i g
  simp [Qf,Xu,ha,hb,g]
theorem jH {a b:List Int} {i:Nat} (h:i<25):VI ((Hj a b i).map Q3) (0+i*1) [.int .i64 (Qf a i+Qf b i)] ((Hj a b (i+1)).map Q3):=by
 have h1:=VI.kR (l:=(Hj a b i).map Q3) (n:=0+i*1) (.int .i64 (Qf a i+Qf b i)) (by simp [Hj];omega)
 rw [← LK h,List.map_set]
 simpa [Q3] using h1
structure dU {ι:Type} (pos:ι→Nat) (n m:Nat) where
 i:Nat
 s:ι
 le:i≤n
 hp:pos s=i*m
structure dT {ι:Type} (pos:ι→Nat) (n m i:Nat) where
 j:Nat
 s:ι
 le:j≤m
 hp:pos s=i*m+j
structure dS (n:Nat) where
 k:Nat
 le:k≤n
theorem Tw {ι:Type} {w0:World} {F0:Gs} {B:ι→List (Nat×Obj)} {H:ι→Gs→Prop} {pos:ι→Nat} {p q:W8} {b1 b2 L n:Nat}
  (hH:∀ s F,H s F→F b1=some (#[p.1.v],157)∧F b2=some (#[q.1.v],157)∧Jo F p.1 p.2 (JK p.2)∧Jo F q.1 q.2 (JK q.2)) (hPn:p.2.length=p.1.n∧q.2.length=q.1.n)
  (hw:(∀ t∈p.2,t.t.2.length=n∧t.r.n=n∧PW t.t.2)∧∀ t∈q.2,t.t.2.length=n∧t.r.n=n∧PW t.t.2) (hn:n≤25) (hl:p.2.length≤1000000∧q.2.length≤1000000) (hz:(∀ t∈p.2,JQ t.t.1≤20000000)∧∀ t∈q.2,JQ t.t.1≤20000000)
  (hround:∀ (G:Gs→Prop) (C:List (Nat×Obj)) (s:ι) (i j:Nat) (x:Fr) (W:World),i<p.2.length→j<q.2.length→pos s=i*q.2.length+j →
   St ⟨w0,F0,B s++C,fun F=>(G F∧H s F)∧Jc F x ((el p.2 i).t.1*(el q.2 j).t.1)⟩ W→YieldAt Fence.wide 0 Tryz.prog L #[Ve (YM (Xu (el p.2 i).t.2 (el q.2 j).t.2)),x.v] W fun e W'=>e = .returned (.bool true)∧∃ s',pos s'=pos s+1∧St ⟨w0,F0,B s'++C,fun F=>G F∧H s' F⟩ W')
  (s0:ι) (h0:pos s0=0) :
  XD Tryz.prog 209 [.func (.yield L) #[] #[],.pointer (some ⟨b1,0,none⟩),.pointer (some ⟨b2,0,none⟩)] ⟨w0,F0,B s0,H s0⟩ (fun(_:{ s:ι // pos s=p.2.length*q.2.length })=>.tuple #[]) (fun s=>⟨w0,F0,B s.1,H s.1⟩):=by
 have hpn:p.2.length=p.1.n:=hPn.1
 have hqn:q.2.length=q.1.n:=hPn.2
 refine XD.intro Tryz.func209 rfl (by rfl) rfl rfl<|QG<|QB<|QA (NK (c:=#[p.1.v]) (T':=157) rfl WS (fun F hs0=>(hH _ _ hs0).1) rfl)<|QA (Qn rfl J3)<|QA (QD rfl)<|QF<|QC<|Qa<|J0 (ι:=dU pos p.2.length q.2.length) [(0,_),(2,_),(10,_),(11,_)] (fun i=>[(12,.int .i64 ((i.i:Nat):Int))]) (fun i=>B i.s) (fun i F=>H i.s F) (fun i=>p.2.length - i.i) (⟨0,s0,Nat.zero_le _,by rw [h0,Nat.zero_mul]⟩) ⟨rfl,rfl,rfl,rfl,trivial⟩ ⟨rfl,trivial⟩ (List.Sublist.refl _) (fun _ h=>h) (fun i=>?_)
 simp only [List.cons_append,List.nil_append]
 have hi:=i.le
 refine QG<|QB<|QA (QU rfl rfl rfl)<|QF<|QC<|QG ?_
 refine QQ rfl (fun hc=>?_) (fun hc=>?_)
 ·
  have hlt:i.i<p.2.length:=by have:=of_decide_eq_true hc;omega
  have hta:=Je hlt
  obtain ⟨hna,hra,hpa⟩:=hw.1 _ hta
  have hza:=hz.1 _ hta
  refine QP<|QC<|QG<|Qa<|QG<|QB<|QA (JY (n:=p.1.n) (i.i) (fun F ⟨hs0,hs1⟩=>(hH _ _ hs0).2.2.1.1) rfl rfl J3 Ji (by omega))<|QA (X9 (n:=p.1.n) (vs:=[.int .i64 (el p.2 (i.i)).x.n.s,.slice (el p.2 (i.i)).x.n.q (el p.2 (i.i)).x.n.n (el p.2 (i.i)).x.n.cap,.int .i64 (el p.2 (i.i)).x.d.s,.slice (el p.2 (i.i)).x.d.q (el p.2 (i.i)).x.d.n (el p.2 (i.i)).x.d.cap,.slice (el p.2 (i.i)).r.q (el p.2 (i.i)).r.n (el p.2 (i.i)).r.cap]) ((i.i)*5) (fun F ⟨hs0,hs1⟩=>(hH _ _ hs0).2.2.1.1) (by omega) rfl Ji rfl (fun j v hv=>XW (f:=Yv) (l:=p.2) Yb (by omega) hv))<|QZ Zh (fun b5=>QS (vs:=[_,_,_,_,_]) rfl rfl rfl Ji rfl .here (.here (.here (.here (.here (.here .nil))))) ⟨rfl,rfl,rfl,rfl,rfl,trivial⟩<|QF<|QC<|QG<|QB<|QA (NK (c:=#[q.1.v]) (T':=157) rfl WS (fun F ⟨hs0,hs1⟩=>(hH _ _ hs0).2.1) rfl)<|QA (Qn rfl J3)<|QA (QD rfl)<|QF<|QC<|Qa<|J0 (ι:=dT pos p.2.length q.2.length i.i) [(0,_),(2,_),(5,_),(10,_),(11,_),(12,_),(16,_),(17,_)] (fun i2=>[(18,.int .i64 ((i2.j:Nat):Int))]) (fun i2=>(b5,.cells (Yv (el p.2 i.i)).toArray 165 (0,0))::B i2.s) (fun i2 F=>H i2.s F) (fun i2=>q.2.length - i2.j) (⟨0,i.s,Nat.zero_le _,by rw [i.hp,Nat.add_zero]⟩) ⟨rfl,rfl,rfl,rfl,rfl,rfl,rfl,rfl,trivial⟩ ⟨rfl,trivial⟩ (List.Sublist.refl _) (fun _ h=>h.2) (fun i2=>?_))
  simp only [List.cons_append,List.nil_append]
  have hj:=i2.le
  refine QG<|QB<|QA (QU rfl rfl rfl)<|QF<|QC<|QG ?_
  refine QQ rfl (fun hc=>?_) (fun hc=>?_)
  ·
   have hlt2:i2.j<q.2.length:=by have:=of_decide_eq_true hc;omega
   have htb:=Je hlt2
   obtain ⟨hnb,hrb,hpb⟩:=hw.2 _ htb
   have hzb:=hz.2 _ htb
   refine QP<|QC<|QG<|Qa<|QG<|QB<|QA (JY (n:=q.1.n) (i2.j) (fun F ⟨⟨hs0,hs1⟩,hs2⟩=>(hH _ _ hs0).2.2.2.1) rfl rfl J3 Ji (by omega))<|QA (X9 (n:=q.1.n) (vs:=[.int .i64 (el q.2 (i2.j)).x.n.s,.slice (el q.2 (i2.j)).x.n.q (el q.2 (i2.j)).x.n.n (el q.2 (i2.j)).x.n.cap,.int .i64 (el q.2 (i2.j)).x.d.s,.slice (el q.2 (i2.j)).x.d.q (el q.2 (i2.j)).x.d.n (el q.2 (i2.j)).x.d.cap,.slice (el q.2 (i2.j)).r.q (el q.2 (i2.j)).r.n (el q.2 (i2.j)).r.cap]) ((i2.j)*5) (fun F ⟨⟨hs0,hs1⟩,hs2⟩=>(hH _ _ hs0).2.2.2.1) (by omega) rfl Ji rfl (fun j v hv=>XW (f:=Yv) (l:=q.2) Yb (by omega) hv))<|QZ Zh (fun b7=>QS (vs:=[_,_,_,_,_]) rfl rfl rfl Ji rfl .here (.here (.here (.here (.here (.here .nil))))) ⟨rfl,rfl,rfl,rfl,rfl,trivial⟩<|QF<|QC<|QG<|QB<|QZ Fk (fun b8=>QF<|QC<|QG<|QG<|QB<|QA (QI rfl ZB Qs)<|QA (Qi rfl Qs (.there (.there .here)) (.skip (.skip (.skip (.skip (.here .nil))))))<|QA (Qn rfl Qe)<|QA (QD rfl)<|QF ?_))
   refine QC<|Qa<|J0 (ι:=dS n) [(0,_),(2,_),(5,_),(7,_),(8,_),(10,_),(11,_),(12,_),(16,_),(17,_),(18,_),(24,_)] (fun i3=>[(25,.int .i64 ((i3.k:Nat):Int))]) (fun i3=>(b8,.cells ((Hj (el p.2 i.i).t.2 (el q.2 i2.j).t.2 i3.k).map Q3).toArray 160 (0,0))::(b7,.cells (Yv (el q.2 i2.j)).toArray 165 (0,0))::(b5,.cells (Yv (el p.2 i.i)).toArray 165 (0,0))::B i2.s) (fun i3 F=>True) (fun i3=>n - i3.k) (⟨0,Nat.zero_le _⟩) ⟨rfl,rfl,rfl,rfl,rfl,rfl,rfl,rfl,rfl,rfl,rfl,rfl,trivial⟩ ⟨rfl,trivial⟩ (List.Sublist.refl _) (fun _ _=>trivial) (fun i3=>?_)
   simp only [List.cons_append,List.nil_append]
   have hk:=i3.le
   refine QG<|QB<|QA (QU rfl rfl rfl)<|QF<|QC<|QG ?_
   refine QQ rfl (fun hc=>?_) (fun hc=>?_)
   ·
    have hlt3:i3.k<n:=by have:=of_decide_eq_true hc;omega
    have hka:=hpa.el (show i3.k<(el p.2 i.i).t.2.length by omega)
    have hkb:=hpb.el (show i3.k<(el q.2 i2.j).t.2.length by omega)
    refine QP<|QC<|QG<|Qa<|QG<|QB<|QA (QD rfl)<|QA (QE rfl)<|QF<|QC<|Xv 13 (List.Sublist.refl _) mixed (by kernel_rfl) (by kernel_rfl) ?_
    simp only [List.take_succ_cons,List.take_zero,List.drop_succ_cons,List.drop_zero]
    refine QK (QD rfl)<|QK (QI rfl ZB Qs)<|QK (Qi rfl Qs (.there (.there .here)) (.skip (.skip (.skip (.skip (.here .nil))))))<|QK (QD rfl)<|QK (JY (n:=(el p.2 i.i).r.n) (i3.k) (fun F ⟨⟨⟨hs0,hs1⟩,hs2⟩,_⟩=>(((hH _ _ hs0).2.2.1.2.1 _ hta).2).1) rfl rfl Qe Qp (by omega))<|QK (Jf (n:=(el p.2 i.i).r.n) ((i3.k)*1) (fun F ⟨⟨⟨hs0,hs1⟩,hs2⟩,_⟩=>(((hH _ _ hs0).2.2.1.2.1 _ hta).2).1) (by omega) rfl Qp (JL (o:=(el p.2 i.i).t.2) (by omega)))<|QK (QI rfl ZB Qs)<|QK (Qi rfl Qs (.there .here) (.skip (.skip (.skip (.skip (.here .nil))))))<|QK (QD rfl)<|QK (JY (n:=(el q.2 i2.j).r.n) (i3.k) (fun F ⟨⟨⟨hs0,hs1⟩,hs2⟩,_⟩=>(((hH _ _ hs0).2.2.2.2.1 _ htb).2).1) rfl rfl Qe Qp (by omega))<|QK (Jf (n:=(el q.2 i2.j).r.n) ((i3.k)*1) (fun F ⟨⟨⟨hs0,hs1⟩,hs2⟩,_⟩=>(((hH _ _ hs0).2.2.2.2.1 _ htb).2).1) (by omega) rfl Qp (JL (o:=(el q.2 i2.j).t.2) (by omega)))<|QK (Qu rfl rfl (by omega))<|QK (O9 (i:=i3.k) rfl rfl qQ Qp (by omega))<|VD<|QS (vs:=[_]) rfl rfl rfl Qp rfl .here (jH (by omega)) ⟨rfl,trivial⟩<|QF<|Ql<|QC<|QB<|QA (Qu rfl rfl (by omega))<|QA (QD rfl)<|QF ?_
    exact Qo (⟨i3.k+1,hlt3⟩) (by show n - (i3.k+1)<n - i3.k;omega) ⟨rfl,rfl,rfl,rfl,rfl,rfl,rfl,rfl,rfl,rfl,rfl,rfl,rfl,trivial⟩ (List.Sublist.refl _) (fun F h=>⟨h.1,trivial⟩)
   ·
    have hge3:i3.k=n:=by have:=of_decide_eq_false hc;omega
    refine Q5 ?_
    repeat (first | refine Qc ?_ | refine QX (by rfl) ?_)
    refine Qd<|QC<|QG ?_
    rw [hge3,LL hna hnb]
    refine S8 7 (List.Sublist.refl _) mixed (by kernel_rfl) (by kernel_rfl) rfl ?_
    simp only [List.take_succ_cons,List.take_zero,List.drop_succ_cons,List.drop_zero]
    refine QK (QD rfl)<|QK (QJ (vs:=(YM (Xu (el p.2 i.i).t.2 (el q.2 i2.j).t.2)).1.map Q3) rfl GC .here (PM.all _) (by simp [YM]))<|QK (QI rfl YF Qg)<|QK (QJ (vs:=[_,_,_,_]) rfl Qg (.there (.there .here)) (.here (.here (.here (.here .nil)))) rfl)<|QK (QI rfl YF Qg)<|QK (QJ (vs:=[_,_,_,_]) rfl Qg (.there .here) (.here (.here (.here (.here .nil)))) rfl)<|QY rfl (fun w F hF ⟨⟨⟨hs0,hs1⟩,hs2⟩,_⟩=>Km hF ((hH _ _ hs0).2.2.1.2.1 _ hta).1 ((hH _ _ hs0).2.2.2.2.1 _ htb).1 (by omega) (by omega)) (fun x48=>qd ?_)
    refine OF (E':=fun s':{ s:ι // pos s=pos i2.s+1 }=>⟨w0,F0,(b8,.cells ((YM (Xu (el p.2 i.i).t.2 (el q.2 i2.j).t.2)).1.map Q3).toArray 160 (0,0))::(b7,.cells (Yv (el q.2 i2.j)).toArray 165 (0,0))::(b5,.cells (Yv (el p.2 i.i)).toArray 165 (0,0))::B s'.1,fun F=>(H s0 F∧H i.s F)∧H s'.1 F⟩) rfl rfl (fun W hW=>?_) (fun s49=>?_)
    ·obtain ⟨fn,tmps,assign,body,e1,e2⟩:=hround (fun F=>H s0 F∧H i.s F) [(b8,.cells ((YM (Xu (el p.2 i.i).t.2 (el q.2 i2.j).t.2)).1.map Q3).toArray 160 (0,0)),(b7,.cells (Yv (el q.2 i2.j)).toArray 165 (0,0)),(b5,.cells (Yv (el p.2 i.i)).toArray 165 (0,0))] i2.s i.i i2.j x48 W hlt hlt2 i2.hp ((hW.perm (List.perm_append_comm (l₁:=[_,_,_]))).By fun F h=>⟨h.1.1,h.2⟩)
     exact⟨fn,tmps,assign,body,e1,e2.mono fun e w' ⟨h2,s',h3,h4⟩=>⟨h2,⟨s',h3⟩,h4.perm (List.perm_append_comm (l₂:=[_,_,_]))⟩⟩
    refine y5 (fun⟨a,w,h⟩=>by obtain ⟨c,e,_⟩:=h;cases e) rfl<|QA (YV rfl)<|QF<|QC ?_
    refine QQ rfl (fun hc=>?_) (fun hc=>?_)
    ·exact absurd hc (by decide)
    ·
     refine QP<|Ql<|QC<|QB<|QA (Qu rfl rfl (by omega))<|QA (QD rfl)<|QF ?_
     exact Qo (⟨i2.j+1,s49.1,hlt2,by rw [s49.2,i2.hp];omega⟩) (by show q.2.length - (i2.j+1)<q.2.length - i2.j;omega) ⟨rfl,rfl,rfl,rfl,rfl,rfl,rfl,rfl,rfl,trivial⟩ (.cons _ (.cons _ (List.Sublist.refl _))) (fun F h=>h)
  ·
   have hge2:i2.j=q.2.length:=by have:=of_decide_eq_false hc;omega
   refine Q5 ?_
   repeat (first | refine Qc ?_ | refine QX (by rfl) ?_)
   refine Qd<|Ql<|QC<|QB<|QA (Qu rfl rfl (by omega))<|QA (QD rfl)<|QF ?_
   exact Qo (⟨i.i+1,i2.s,hlt,by rw [i2.hp,hge2,Nat.add_mul,Nat.one_mul]⟩) (by show p.2.length - (i.i+1)<p.2.length - i.i;omega) ⟨rfl,rfl,rfl,rfl,rfl,trivial⟩ (.cons _ (List.Sublist.refl _)) (fun F h=>⟨h.1.1,h.2⟩)
 ·
  have hge:i.i=p.2.length:=by have:=of_decide_eq_false hc;omega
  refine Q5 ?_
  repeat (first | refine Qc ?_ | refine QX (by rfl) ?_)
  refine Qd<|ED ?_
  exact Y8 (γ:={ s:ι // pos s=p.2.length*q.2.length }) ⟨i.s,by rw [i.hp,hge]⟩ rfl .nil rfl (fun w h=>h.imp (List.Sublist.refl _) (fun F h=>h.2))
end
section
open Go.RowKit Ig
structure GZ where
 x:Fr
 t:Tm
instance :Inhabited GZ:=⟨⟨default,(0,[])⟩⟩
def RS (ms:List GZ):List (xh 25×Value):=ms.map fun e=>(YM e.t.2,e.x.v)
def KF (ms:List GZ):List Tm:=ms.map (·.t)
def D5:List GZ→GZ→List GZ
 |[],n=>[n]
 |t::l,n=>if n.t.2=t.t.2 then n::l else t::D5 l n
theorem T5 {a b:List Int} {n:Nat} (hn:n≤25) (ha:a.length=n) (hb:b.length=n) (h:YM a=YM b):a=b:=by
 have h1:(List.range 25).map (Qf a)=(List.range 25).map (Qf b):=congrArg Subtype.val h
 apply List.ext_getElem (by omega)
 intro i h2 h3
 have h4:=congrArg (fun l=>l[i]?) h1
 simp only [List.getElem?_map,List.getElem?_range (show i<25 by omega),Option.map_some,Option.some.injEq] at h4
 simpa [Qf,h2,h3] using h4
theorem Ps:∀ (ms:List GZ) (n:GZ),KF (D5 ms n)=BG (KF ms) n.t
 |[],n=>rfl
 |t::l,n=>by
  have ih:=Ps l n
  unfold KF at ih ⊢
  simp only [D5,List.map_cons,BG]
  split
  ·simp
  ·simp [ih]
theorem Bs {ts:List GZ} {n x:GZ} (h:x∈D5 ts n):x=n∨x∈ts:=by
 induction ts with
 |nil=>simp [D5] at h;exact .inl h
 |cons t l ih =>
  simp only [D5] at h
  split at h
  ·rcases List.mem_cons.1 h with h | h
   ·exact .inl h
   ·exact .inr (List.mem_cons_of_mem _ h)
  ·rcases List.mem_cons.1 h with h | h
   ·exact .inr (h ▸ List.mem_cons_self)
   ·rcases ih h with h | h
    ·exact .inl h
    ·exact .inr (List.mem_cons_of_mem _ h)
def gN (n:Nat) (ms:List GZ):Prop:=∀ e∈ms,e.t.2.length=n
theorem Ni {w:Nat} (hw:w≤25):∀ (ms:List GZ) (n:GZ),gN w ms→n.t.2.length=w→RS (D5 ms n)=Bl (RS ms) (YM n.t.2) n.x.v
 |[],n,_,_=>rfl
 |t::l,n,h,hn=>by
  have ih:=Ni hw l n (fun e he=>h e (List.mem_cons_of_mem _ he)) hn
  unfold RS at ih ⊢
  simp only [D5,List.map_cons,Bl]
  by_cases g:n.t.2=t.t.2
  ·rw [if_pos g,if_pos (congrArg YM g)];simp
  ·rw [if_neg g,if_neg fun e=>g (T5 hw hn (h t List.mem_cons_self) e)];simp [ih]
theorem zM {w:Nat} (hw:w≤25):∀ (ms:List GZ) (p:List Int) (i:Nat),gN w ms→p.length=w→(Z4 (RS ms) (YM p) i=none∧p∉(KF ms).map (·.2))∨∃ j,∃ t∈ms,t.t.2=p∧Z4 (RS ms) (YM p) i=some (j,t.x.v)
 |[],_,_,_,_=>.inl ⟨rfl,by simp [KF]⟩
 |t::l,p,i,h,hp=>by
  by_cases g:p=t.t.2
  ·exact .inr ⟨i,t,List.mem_cons_self,g.symm,by show(if _ then _ else _)=_;rw [if_pos (congrArg YM g)]⟩
  ·have g2:¬ YM p=YM t.t.2:=fun e=>g (T5 hw hp (h t List.mem_cons_self) e)
   rcases zM hw l p (i+1) (fun e he=>h e (List.mem_cons_of_mem _ he)) hp with ⟨h1,h2⟩ | ⟨j,u,hu,h1,h2⟩
   ·refine .inl ⟨?_,?_⟩
    ·show(if _ then _ else _)=_
     rw [if_neg g2];exact h1
    ·simp only [KF,List.map_cons,List.mem_cons,not_or];exact⟨g,h2⟩
   ·refine .inr ⟨j,u,List.mem_cons_of_mem _ hu,h1,?_⟩
    show(if _ then _ else _)=_
    rw [if_neg g2];exact h2
def k8 (F:Gs) (ms:List GZ):Prop:=∀ e∈ms,Jc F e.x e.t.1
theorem k8.le {F F':Gs} {ms:List GZ} (h:k8 F ms) (k:Gs.le F F'):k8 F' ms:=fun e he=>(h e he).le k
structure E4 (n:Nat) (ms:List GZ) (l:List Tm):Prop where
 AL:OA (KF ms) l
 wd:gN n ms
 pw:∀ e∈ms,PW e.t.2
 ln:ms.length≤l.length
theorem E4.nil {n:Nat}:E4 n [] []:=⟨OA.nil,(fun _ h=>by cases h),(fun _ h=>by cases h),Nat.le_refl _⟩
theorem qV (ms:List GZ) (n:GZ):(D5 ms n).length≤ms.length+1:=by
 induction ms with
 |nil=>exact Nat.le_refl _
 |cons t l ih =>
  simp only [D5]
  split<;>simp only [List.length_cons]<;>omega
theorem E4.add {w:Nat} {ms:List GZ} {l:List Tm} (h:E4 w ms l) {f:Rat} {p:List Int} (hp:PW p) (hw:p.length=w) {n:GZ} (hn:n.t=(f+Jn (KF ms) p,p)):E4 w (D5 ms n) (l++[(f,p)]) :=
 ⟨by rw [Ps,hn];exact h.AL.add f p,fun t ht=>by
  rcases Bs ht with rfl | ht
  ·rw [hn];exact hw
  ·exact h.wd t ht,fun t ht=>by
  rcases Bs ht with rfl | ht
  ·rw [hn];exact hp
  ·exact h.pw t ht,by have:=qV ms n;have:=h.ln;rw [List.length_append];simp only [List.length_singleton];omega⟩
theorem E4.sz {w:Nat} {ms:List GZ} {l:List Tm} (h:E4 w ms l) {t:GZ} (ht:t∈ms):JQ t.t.1≤Zm l+1:=by
 rw [← h.AL.DK (List.mem_map_of_mem (f:=GZ.t) ht),h.AL.eq];exact BR _ _
structure kz (n:Nat) (l:List Tm) where
 k:Nat
 ms:List GZ
 hI:E4 n ms (l.take k)
theorem CF {p q:List XZ} {i j:Nat} (hi:i<p.length) (hj:j<q.length):(Jk (JK p) (JK q))[i*q.length+j]?=some ((el p i).t.1*(el q j).t.1,Xu (el p i).t.2 (el q j).t.2):=by
 induction p generalizing i with
 |nil=>simp at hi
 |cons a p ih =>
  rw [show JK (a::p)=a.t::JK p from rfl,We]
  have hl:(Xa a.t (JK q)).length=q.length:=by simp [Xa,JK]
  cases i with
  |zero =>
   rw [Nat.zero_mul,Nat.zero_add,List.getElem?_append_left (by omega)]
   simp [Xa,JK,Zl hj,hj,el]
  |succ i =>
   rw [List.getElem?_append_right (by rw [hl,Nat.add_mul];omega),hl,show(i+1)*q.length+j - q.length=i*q.length+j by rw [Nat.add_mul];omega]
   have:=ih (i:=i) (by simpa using hi)
   rw [this];simp [el]
theorem qp {l:List Tm} {k:Nat} {t:Tm} (h:l[k]?=some t):l.take (k+1)=l.take k++[t]:=by
 obtain ⟨h1,rfl⟩:=List.getElem?_eq_some_iff.1 h
 rw [List.take_succ_eq_append_getElem h1]
theorem zc {l:List Tm} {k:Nat}:Zm (l.take k)≤Zm l:=qt (List.take_append_drop k l)
theorem NW:UJ Tryz.prog 152 160 130=true:=by kernel_rfl
theorem Sd:S7 Tryz.prog 160 (Ve (n:=25)):=.arr (e:=3) (by kernel_rfl) (by kernel_rfl) (by kernel_rfl)
theorem qi:kG Tryz.prog 130=some (.agg #[.int .i64 0,.slice none 0 0,.int .i64 0,.slice none 0 0]):=by kernel_rfl
end
section
open Go.RowKit Ig
theorem Db:YR Tryz.prog 152=some (false,1):=by kernel_rfl
theorem kJ:XO Tryz.prog 152=some [.map none]:=by kernel_rfl
theorem Au {w:World} {F:Gs} {p q:Sr} (hF:Fits F w):QT Tryz.prog 129 [p.v,q.v] w F (fun(c:Nat×Nat)=>.func (.func 209) #[] #[.pointer (some ⟨c.1,0,none⟩),.pointer (some ⟨c.2,0,none⟩)]) (fun c F=>F c.1=some (#[p.v],157)∧F c.2=some (#[q.v],157)):=by
 dsimp only [Sr.v]
 refine QT.intro (G:=fun F=>True) Tryz.func129 rfl (by rfl) rfl rfl hF (fun F' hF'=>trivial)<|QG<|QB<|Qz rfl (vs:=[_]) rfl (fun b2=>Qz rfl (vs:=[_]) rfl (fun b3=>QA (QE rfl)<|QF<|QC<|QG<|QB<|D8 (b:=b2) (.there .here)<|D8 (b:=b3) .here<|QA (NJ rfl)<|QA (QE rfl)<|QF<|QC<|QR ?_))
 exact QN ((b2,b3)) rfl (.tmp rfl .nil) (rfl) (fun F h=>⟨h.1.2,h.2⟩)
section
variable [Dr]
theorem jl {w:World} {F:Gs} {a b:XZ} (hF:Fits F w) (hA:TF F a) (hB:TF F b) (pa:PW a.t.2) (pb:PW b.t.2):QV Tryz.prog 135 [Az a,Az b] w F (.int .i64 (Vd a.t.2 b.t.2)):=by
 refine QT.intro (G:=fun F=>TF F a∧TF F b) Tryz.func135 rfl (by rfl) rfl rfl hF (fun F' hF'=>⟨hA.le hF',hB.le hF'⟩)<|QG<|QB<|Qz rfl (vs:=[_,_,_,_,_]) rfl (fun b2=>Qz rfl (vs:=[_,_,_,_,_]) rfl (fun b3=>QA (QE rfl)<|QF<|QC<|QG<|QB<|QA (QI rfl ZB Qs)<|QA (Qi rfl Qs (.there .here) (.skip (.skip (.skip (.skip (.here .nil))))))<|QA (QI rfl ZB Qs)<|QA (Qi rfl Qs .here (.skip (.skip (.skip (.skip (.here .nil))))))<|QH rfl (fun w F hF ⟨hA,hB⟩=>H2 hF (ra:=a.r) (rb:=b.r) hA.2 (hB.2) (pa) (pb)) (fun _=>QA (QE rfl)<|QF<|QC<|QR ?_)))
 exact QN (()) rfl (.tmp rfl .nil) (rfl) (fun F ⟨⟨hA,hB⟩,_⟩=>trivial)
end
theorem qL:Fj 135:=⟨enters_of Tryz.func135 (by rfl) rfl,fun w F a b hF hA hB pa pb=>@jl ⟨True⟩ w F a b hF hA hB pa pb⟩
end
section
open Go.RowKit Ig
theorem SC {l vs:List Value} (h:l.length=vs.length):VI l 0 vs vs:=by
 have h1:=VI.mk' 0 l vs (by omega)
 rwa [List.take_zero,List.nil_append,Nat.zero_add,List.drop_of_length_le (by omega),List.append_nil] at h1
theorem KQ (l:List Int):((YM l).1.map Q3).length=25:=by simp [YM]
theorem SI (l:List Int):H4 ((YM l).1.map Q3):=by
 have key:∀ (x:List Int),H4 (x.map Q3):=by
  intro x
  induction x with
  |nil=>trivial
  |cons a x ih=>exact⟨rfl,ih⟩
 exact key _
theorem Ou {F:Gs} {b n:Nat} {l:List Int} (h:F b=some (((YM l).1.map Q3).toArray,160)) (hl:l.length=n) (hn:n≤25):JP F ⟨some ⟨b,0,none⟩,n,25⟩ l:=by
 refine⟨⟨by simp [hl],fun _=>⟨b,0,_,_,rfl,h,fun j u hu=>?_⟩⟩,hl,hn⟩
 rw [Nat.zero_add]
 have hj:j<l.length:=by
  rcases Nat.lt_or_ge j l.length with g | g
  ·exact g
  ·rw [List.getElem?_eq_none (by simpa using g)] at hu;cases hu
 have h25:j<25:=by omega
 rw [List.getElem?_map,List.getElem?_eq_getElem hj] at hu
 simp only [Option.map_some,Option.some.injEq] at hu
 rw [← hu]
 simp [YM,h25,Qf,hj]
section
variable [Dr] [df:Df] {P:Program} {Q:Exit→Act→World→Prop} {N:Nat} {m:Sl} {ops:Array Oper} {l:List Oper} {E E':Env}
theorem xb (h:∀ w,St E w→St E' w) (k:JS P ops Q l N m E'):JS P ops Q l N m E:=fun a w ha hw=>k a w ha (h w hw)
theorem AI {w0:World} {F0:Gs} {bs bs':List (Nat×Obj)} {G:Gs→Prop} {E0:Env} (hp:bs.Perm bs') (k:JD P ops Q E0 l N m ⟨w0,F0,bs',G⟩):JD P ops Q E0 l N m ⟨w0,F0,bs,G⟩:=fun hE a w ha hw=>k (fun w h=>hE w (h.perm hp.symm)) a w ha (hw.perm hp)
end
theorem ND {N:Nat} {m:Sl} {ps:Array Tmp} {assign body:Code} {r:Loop} (h:qc N m ps assign body r):{ ({ r with state:=.busy }:Loop) with state:=.ready,pending:=none }=r:=by
 obtain ⟨h1,h2,_,_,_,_⟩:=h
 cases r;simp only at h1 h2;subst h1;subst h2;rfl
theorem EN {N:Nat} {m:Sl} {p1 p2:Tmp} {assign body:Code} {r:Loop} (h:qc N m #[p1,p2] assign body r) (v1 v2:Value) (h1:p1<N) (h2:p2<N):Jt (df:=VV) N ((p2,v2)::(p1,v1)::m) (R4 r #[v1,v2]):=by
 have e:R4 r #[v1,v2]=((({ tmps:=r.tmps,defers:=[] }:Act).put (some p1) v1).put (some p2) v2):=by
  unfold R4;rw [h.params];simp [Act.put]
 rw [e]
 exact(h.kQ.put (d:=some p1) (by simpa [J7] using h1) v1).put (d:=some p2) (by simpa [J7] using h2) v2
def jc (l:List Tm):List Tm:=l.filter fun t=>decide (t.1≠0)
structure kE (ms:List GZ) where
 seen:List Nat
 os:List XZ
 v:Value
 n:Nat
 ob:List (Nat×Obj)
 hr:Q7 165 5 v n (os.flatMap Yv) ob
 nd:seen.Nodup
 lt:∀ j∈seen,j<ms.length
 hn:os.length=n
 ho:JK os=jc (KF (seen.map (el ms)))
theorem Wd (p q:List Tm):(Jk p q).length=p.length*q.length:=by
 unfold Jk
 induction p with
 |nil=>simp
 |cons a p ih=>rw [List.flatMap_cons,List.length_append,ih,List.length_cons,Nat.add_mul];simp [Xa];omega
theorem RM {p q:List Tm} {t:Tm} (h:t∈Jk p q):∃ s∈p,∃ u∈q,t.2=Xu s.2 u.2:=by
 unfold Jk Xa at h
 obtain ⟨s,hs,h1⟩:=List.mem_flatMap.1 h
 obtain ⟨u,hu,rfl⟩:=List.mem_map.1 h1
 exact⟨s,hs,u,hu,rfl⟩
theorem jK {p q:List Tm} (lp:p.length≤64) (lq:q.length≤64) (hp:∀ t∈p,JQ t.1≤2400) (hq:∀ t∈q,JQ t.1≤2400):Zm (Jk p q)≤30000000:=by
 have h1:=Dd (l:=Jk p q) (k:=4800) fun t ht=>by
  unfold Jk Xa at ht
  obtain ⟨s,hs,h1⟩:=List.mem_flatMap.1 ht
  obtain ⟨u,hu,rfl⟩:=List.mem_map.1 h1
  have:=Jz s.1 u.1
  have:=hp s hs
  have:=hq u hu
  show JQ (s.1*u.1)≤_
  omega
 rw [Wd] at h1
 have h2:p.length*q.length≤64*64:=Nat.mul_le_mul lp lq
 have h3:p.length*q.length*4801≤64*64*4801:=Nat.mul_le_mul_right _ h2
 omega
theorem Y6.small {p:Pt} {v:Int} (h:Y6 p v):∀ t∈JN p,∀ k∈t.2,0≤k∧k≤12:=fun t ht=>by
 unfold JN at ht
 obtain ⟨x,hx,rfl⟩:=List.mem_map.1 ht
 exact(VN (h.term x hx)).2.1
theorem jG {a b:List Int} (ha:∀ k∈a,0≤k∧k≤12) (hb:∀ k∈b,0≤k∧k≤12) (hl:a.length≤1000):PW (Xu a b):=by
 refine⟨fun x hx=>?_,by unfold Xu;simp;omega⟩
 unfold Xu at hx
 obtain ⟨i,hi,rfl⟩:=List.getElem_of_mem hx
 simp only [List.length_zipWith] at hi
 have h1:=ha (a[i]'(by omega)) (List.getElem_mem _)
 have h2:=hb (b[i]'(by omega)) (List.getElem_mem _)
 simp only [List.getElem_zipWith]
 omega
theorem IJ (ms:List GZ):(RS ms).length=ms.length:=by simp [RS]
theorem jd {ms:List GZ} {seen:List Nat} {j:Nat} {t:GZ} {os:List XZ} {o:XZ} (e:el ms j=t) (h:t.t.1≠0) (ho:JK os=jc (KF (seen.map (el ms)))) (hot:o.t=t.t):JK (os++[o])=jc (KF ((seen++[j]).map (el ms))):=by
 have e1:JK (os++[o])=JK os++[o.t]:=by unfold JK;rw [List.map_append];rfl
 have e2:KF ((seen++[j]).map (el ms))=KF (seen.map (el ms))++[t.t]:=by unfold KF;rw [List.map_append,List.map_append,List.map_cons,List.map_nil,e];rfl
 rw [e1,e2,ho,hot]
 unfold jc
 rw [List.filter_append]
 simp [h]
theorem yK {ms:List GZ} {seen:List Nat} {j:Nat} {t:GZ} {os:List XZ} (e:el ms j=t) (h:t.t.1=0) (ho:JK os=jc (KF (seen.map (el ms)))):JK os=jc (KF ((seen++[j]).map (el ms))):=by
 have e2:KF ((seen++[j]).map (el ms))=KF (seen.map (el ms))++[t.t]:=by unfold KF;rw [List.map_append,List.map_append,List.map_cons,List.map_nil,e];rfl
 rw [e2,ho]
 unfold jc
 rw [List.filter_append]
 simp [h]
theorem Ch {n:Nat} {ms:List GZ} {os cs:List XZ} {l:List Tm} {seen:List Nat} (hI:E4 n ms l) (hn:seen.Nodup) (hlt:∀ j∈seen,j<ms.length) (hall:∀ j,j<ms.length→j∈seen) (ho:JK os=jc (KF (seen.map (el ms)))) (hp:cs.Perm os) (hs:cs.Pairwise fun x y=>before y.t.2 x.t.2=false):JK cs=XK l:=by
 have h1:(KF (seen.map (el ms))).Perm (KF ms):=by
  have:=(Tg hn hlt hall).map (el ms)
  rw [Bt] at this
  exact this.map _
 have h2:(JK cs).Perm ((KF ms).filter fun t=>decide (t.1≠0)):=by
  have e:(JK cs).Perm (JK os):=hp.map _
  rw [ho] at e
  exact e.trans (h1.filter _)
 refine hI.AL.norm h2 ?_
 have hnd:((JK cs).map (·.2)).Nodup:=by
  have h3:((JK cs).map (·.2)).Perm (((KF ms).filter fun t=>decide (t.1≠0)).map (·.2)):=h2.map _
  rw [h3.nodup_iff]
  exact(List.filter_sublist.map _).nodup hI.AL.nd
 unfold JK at hnd ⊢
 rw [List.pairwise_map]
 rw [List.map_map] at hnd
 have hnd2:=List.pairwise_map.1 hnd
 refine(hs.and hnd2).imp ?_
 rintro x y ⟨h1,h2⟩
 rcases KM x.t.2 y.t.2 with e | e | e
 ·exact absurd e h2
 ·exact e
 ·rw [h1] at e;cases e
theorem kE.bound {ms:List GZ} (s:kE ms):s.n≤ms.length:=by
 have h1:=congrArg List.length s.ho
 have h2:=List.length_filter_le (fun t:Tm=>decide (t.1≠0)) (KF (s.seen.map (el ms)))
 have h3:=Gr _ _ s.nd s.lt
 unfold jc at h1
 simp only [JK,KF,List.length_map] at h1 h2
 have:=s.hn
 omega
theorem kE.mem {n:Nat} {ms:List GZ} {l:List Tm} (hI:E4 n ms l) (s:kE ms):∀ t∈s.os,PW t.t.2:=fun t ht=>by
 have h1:t.t∈JK s.os:=List.mem_map_of_mem ht
 rw [s.ho] at h1
 have h2:=(List.mem_filter.1 h1).1
 obtain ⟨e,he,h3⟩:=List.mem_map.1 h2
 obtain ⟨j,hj,h4⟩:=List.mem_map.1 he
 rw [← h3,← h4]
 exact hI.pw _ (Je (s.lt j hj))
theorem LG {w:World} {F:Gs} {a b:VK} {v:Int} (hF:Fits F w) (hGl:JF F) (hA:YX F [a,b]) (ht:∀ e∈[a,b],Vn e) :
  QT Tryz.prog 40 [a.1.v,b.1.v,.int .i64 v] w F (fun(c:VK)=>.tuple #[c.1.v,.int .i64 (vW [a,b] v (XK (Jk (JN (XJ a.2)) (JN (XJ b.2)))))]) (fun c F=>Vm F c.1 c.2 (vV [a,b] v (XK (Jk (JN (XJ a.2)) (JN (XJ b.2)))))):=by
 have ha:a∈[a,b]:=by simp
 have hb:b∈[a,b]:=by simp
 dsimp only [Sr.v]
 refine QT.yR (G:=fun F=>JF F∧YX F [a,b]) Tryz.func40 rfl (by rfl) rfl rfl hF (fun F' hF'=>⟨hGl.le hF',hA.le hF'⟩)<|QG<|QB<|QA (QE rfl)<|QA (QE rfl)<|QF<|QC<|QG<|QG<|QB<|QA (QD rfl)<|QA (QD rfl)<|QA (QD rfl)<|QW rfl (Q8 EI) Ms zU rfl rfl (fun b20=>QH rfl (fun w F hF ⟨⟨hGl,hA⟩,hs20⟩=>BE hF hGl (JB.of (n:=2) (sz:=1) (cs:=[a,b].map fun e=>e.1.v) hs20 rfl) (hA) (rfl) (by decide) (ht)) (fun _=>QA (QE rfl)<|QF<|QC<|QG<|QB<|QA (QD rfl)<|QA (QU rfl rfl rfl)<|QF<|QC ?_))
 refine QQ rfl (fun hc=>?_) (fun hc=>?_)
 ·
  have hc0:=bne_iff_ne.1 hc
  refine QG<|QB<|QA (QD rfl)<|QA (QE rfl)<|QA (QE rfl)<|QF<|QC<|QR<|qe ?_
  exact Jb ((⟨none,0,0⟩,[])) rfl (.tmp rfl (.tmp rfl .nil)) (by unfold vW;rw [if_neg hc0]) (fun F ⟨⟨⟨hGl,hA⟩,hs20⟩,_⟩=>by unfold vV;rw [if_neg hc0];exact Vm.nil F)
 ·
  have hc0:=bne_eq_false_iff_eq.1 hc
  obtain ⟨hv,hok⟩:=MP hc0
  have oa:=hok a ha
  have ob:=hok b hb
  have sa:=oa.Zm
  have sb:=ob.Zm
  have hpa:∀ t∈JN (XJ a.2),PW t.2:=oa.pw hv.2
  have hpb:∀ t∈JN (XJ b.2),PW t.2:=ob.pw hv.2
  have hwa:∀ t∈JN (XJ a.2),t.2.length=(v+1).toNat:=fun t ht=>by have:=oa.wide t ht;omega
  have hwb:∀ t∈JN (XJ b.2),t.2.length=(v+1).toNat:=fun t ht=>by have:=ob.wide t ht;omega
  have la:(JN (XJ a.2)).length≤64:=by unfold JN;rw [List.length_map];exact oa.len
  have lb:(JN (XJ b.2)).length≤64:=by unfold JN;rw [List.length_map];exact ob.len
  have hsz:Zm (Jk (JN (XJ a.2)) (JN (XJ b.2)))≤30000000:=jK la lb oa.sz ob.sz
  have hpp:∀ s∈JN (XJ a.2),∀ t∈JN (XJ b.2),PW (Xu s.2 t.2):=fun s hs t ht=>jG (oa.small s hs) (ob.small t ht) (by rw [hwa s hs];omega)
  have hpn:=NT (l:=Jk (JN (XJ a.2)) (JN (XJ b.2))) fun t ht=>by
   obtain ⟨s,hs,t',ht',e⟩:=RM ht
   rw [e];exact hpp s hs t' ht'
  have hll:(Jk (JN (XJ a.2)) (JN (XJ b.2))).length≤4096:=by rw [Wd];exact Nat.mul_le_mul la lb
  have hln:=WM (Jk (JN (XJ a.2)) (JN (XJ b.2)))
  refine QP<|QC<|QG<|QB<|Vj (κ:=xh 25) Ve (fun m=>QZ kJ (fun b9=>QS (vs:=[_]) rfl rfl rfl Db rfl .here (.here .nil) ⟨rfl,trivial⟩<|QF<|QC<|QG<|QG<|QB<|QA (QD rfl)<|QH rfl (fun w F hF ⟨⟨⟨hGl,hA⟩,hs20⟩,_⟩=>Vs hF hGl (a:=a) (hA a ha).1 (hA a ha).2 (ht a ha) oa hv) (fun c27=>JJ _ (fun w F hF h=>And.intro h.2.2.2.1 (And.intro h.2.len (And.intro h.2.2.2.2.2 (fun t ht=>(h.2.2.1 t ht).2.2.1)))) (fun h27p=>?_))))
  obtain ⟨e27,l27,m27,r27⟩:=h27p
  refine QA (QD rfl)<|QH rfl (fun w F hF ⟨⟨⟨⟨hGl,hA⟩,hs20⟩,_⟩,h27⟩=>Vs hF hGl (a:=b) (hA b hb).1 (hA b hb).2 (ht b hb) ob hv) (fun c29=>JJ _ (fun w F hF h=>And.intro h.2.2.2.1 (And.intro h.2.len (And.intro h.2.2.2.2.2 (fun t ht=>(h.2.2.1 t ht).2.2.1)))) (fun h29p=>?_))
  obtain ⟨e29,l29,m29,r29⟩:=h29p
  refine QH rfl (fun w F hF ⟨⟨⟨⟨⟨hGl,hA⟩,hs20⟩,_⟩,h27⟩,h29⟩=>Au (p:=c27.1) (q:=c29.1) hF) (fun c30=>QF<|QC<|Qa<|vA (fun G hG=>?_))
  have hgl:∀ F,G F→JF F:=fun F h=>by obtain ⟨⟨⟨⟨⟨⟨hGl,hA⟩,hs20⟩,_⟩,h27⟩,h29⟩,h30⟩:=hG F h;exact hGl
  have hpr:∀ F,G F→F c30.1=some (#[c27.1.v],157)∧F c30.2=some (#[c29.1.v],157)∧Jo F c27.1 c27.2 (JK c27.2)∧Jo F c29.1 c29.2 (JK c29.2):=fun F h=>by
   obtain ⟨⟨⟨⟨⟨⟨hGl,hA⟩,hs20⟩,_⟩,h27⟩,h29⟩,h30⟩:=hG F h
   exact⟨h30.1,h30.2,by rw [e27];exact h27,by rw [e29];exact h29⟩
  have hvn:(v+1).toNat≤25:=by omega
  have hlp:(Jk (JK c27.2) (JK c29.2))=(Jk (JN (XJ a.2)) (JN (XJ b.2))):=by rw [e27,e29]
  refine AE (ι:=kz (v+1).toNat (Jk (JN (XJ a.2)) (JN (XJ b.2)))) (fun s=>[(b9,.cells [.map (some m)].toArray 152 (0,0)),(m,ZA Ve (RS s.ms))]) (fun s F=>k8 F s.ms) (fun s=>s.k=(Jk (JN (XJ a.2)) (JN (XJ b.2))).length) rfl (enters_of Tryz.func209 (by rfl) rfl) (fun L D r W hrec hW=>?_) (fun D s hs=>?_)
  ·have hprod:=Tw (ι:=kz (v+1).toNat (Jk (JN (XJ a.2)) (JN (XJ b.2)))) (w0:=w) (F0:=F) (B:=fun s=>(L,.loop r)::(D,.deferred (some []))::(b9,.cells [.map (some m)].toArray 152 (0,0))::[(m,ZA Ve (RS s.ms))]) (H:=fun s F=>G F∧k8 F s.ms) (pos:=fun s=>s.k) (p:=c27) (q:=c29) (b1:=c30.1) (b2:=c30.2) (L:=L) (n:=(v+1).toNat)
    (fun s F h=>hpr F h.1) ⟨m27,m29⟩
    ⟨fun t ht=>⟨XL e27 hwa t ht,by rw [← r27 t ht];exact XL e27 hwa t ht,XL e27 hpa t ht⟩,fun t ht=>⟨XL e29 hwb t ht,by rw [← r29 t ht];exact XL e29 hwb t ht,XL e29 hpb t ht⟩⟩ hvn (by omega)
    ⟨fun t ht=>Nat.le_trans (XL (Q:=fun t=>JQ t.1≤2400) e27 oa.sz t ht) (by omega),fun t ht=>Nat.le_trans (XL (Q:=fun t=>JQ t.1≤2400) e29 ob.sz t ht) (by omega)⟩
    (fun G' C s i j x W hi hj hk hst=>?_) ⟨0,[],E4.nil⟩ rfl
   ·refine(hprod.2 W (hW.By fun F h=>⟨h,fun e he=>by cases he⟩)).mono ?_
    rintro e w' ⟨c,rfl,h⟩
    refine⟨⟨_,rfl⟩,c.1,?_,h⟩
    have h1:=c.2
    rw [h1,← hlp,P8,KO,KO]
   ·have hat:=CF hi hj
    rw [hlp,← hk] at hat
    obtain ⟨ta,hta⟩:∃ ta,ta=el c27.2 i:=⟨_,rfl⟩
    obtain ⟨tb,htb⟩:∃ tb,tb=el c29.2 j:=⟨_,rfl⟩
    have hma:ta.t∈JN (XJ a.2):=by rw [hta,← e27];exact List.mem_map_of_mem (Je hi)
    have hmb:tb.t∈JN (XJ b.2):=by rw [htb,← e29];exact List.mem_map_of_mem (Je hj)
    rw [← hta,← htb] at hat hst ⊢
    obtain ⟨f,hfe⟩:∃ f,f=ta.t.1*tb.t.1:=⟨_,rfl⟩
    obtain ⟨p,hpe⟩:∃ p,p=Xu ta.t.2 tb.t.2:=⟨_,rfl⟩
    have hpw:PW p:=by rw [hpe];exact hpp _ hma _ hmb
    have hpl:p.length=(v+1).toNat:=by rw [hpe,Kd (by rw [hwa _ hma,hwb _ hmb]),hwa _ hma]
    rw [← hfe,← hpe] at hat
    rw [← hfe] at hst
    rw [← hpe]
    have htk:=qp hat
    have hzf:JQ f≤20000000:=by have:=Jz ta.t.1 tb.t.1;have:=oa.sz _ hma;have:=ob.sz _ hmb;rw [hfe];omega
    rcases zM hvn s.ms p 0 s.hI.wd hpl with ⟨hfm,hm⟩ | ⟨jj,t0,ht0,h0,hfm⟩
    ·
     refine Mn hst .here (by rw [hrec.params];rfl) (EN hrec _ _ (by decide) (by decide)) ?_
     rw [hrec.assign,hrec.body]
     refine Gc<|ZU (X6 L) (fun⟨_,_,h⟩=>h) rfl<|QZ Fk (fun b10=>QS (vs:=(YM p).1.map Q3) rfl rfl rfl GC (KQ _) .here (SC (by rw [KQ];rfl)) (SI _)<|QF<|V4<|ZU (X6 L) (fun⟨_,_,h⟩=>h) rfl<|QZ X7 (fun b11=>QS (vs:=[_,_,_,_]) rfl rfl rfl Qg rfl .here (.here (.here (.here (.here .nil)))) ⟨rfl,rfl,rfl,rfl,trivial⟩<|QF<|Ik (.there (.there .here)) hrec.state<|AH<|Gc<|Gc<|ZU (X6 L) (fun⟨_,_,h⟩=>h) rfl<|QA (Qi rfl Db (.there (.there (.there (.there .here)))) (.here .nil))<|QA (QJ (vs:=(YM p).1.map Q3) rfl GC (.there .here) (PM.all _) (KQ _))<|QA (P4 Sd rfl rfl NW qi (.there (.there (.there (.there (.there .here))))) hfm)<|QA (QD rfl)<|QA (QM rfl rfl)<|QA (QM rfl rfl)<|QZ X7 (fun b12=>QS (vs:=[_,_,_,_]) rfl rfl rfl Qg rfl .here (.here (.here (.here (.here .nil)))) ⟨rfl,rfl,rfl,rfl,trivial⟩<|QA (QE rfl)<|QF ?_)))
     refine V4<|Gc<|ZU (X6 L) (fun⟨_,_,h⟩=>h) rfl<|QA (QD rfl)<|QF<|V4 ?_
     refine Ih rfl (fun hc=>?_) (fun hc=>?_)
     ·cases hc
     ·refine xe ?_
      refine V4<|ZU (X6 L) (fun⟨_,_,h⟩=>h) rfl<|QA (Qi rfl Db (.there (.there (.there (.there (.there .here))))) (.here .nil))<|QA (QJ (vs:=(YM p).1.map Q3) rfl GC (.there (.there .here)) (PM.all _) (KQ _))<|QA (QJ (vs:=[_,_,_,_]) rfl Qg (.there .here) (.here (.here (.here (.here .nil)))) rfl)<|G6 (k:=YM p) (v:=x.v) Sd rfl rfl rfl NW (.there (.there (.there (.there (.there (.there .here))))))<|QF<|Ql ?_
      refine Ij (.there (.there (.there .here))) (fun w1 hw1=>⟨rfl,⟨s.k+1,D5 s.ms ⟨x,(f,p)⟩,by rw [htk];exact s.hI.add hpw hpl (by rw [Re hm,Rat.add_zero])⟩,rfl,?_⟩)
      rw [ND hrec,← Ni hvn s.ms ⟨x,(f,p)⟩ s.hI.wd hpl] at hw1
      exact St.imp hw1 (.cons _ (.cons _ (.cons _ (List.Sublist.refl _)))) (fun F h=>⟨h.1.1,h.1.2.1,fun e he=>by
       rcases Bs he with rfl | he
       ·exact h.2
       ·exact h.1.2.2 e he⟩)
    ·
     have hzc:=s.hI.sz ht0
     have hzt:=zc (l:=(Jk (JN (XJ a.2)) (JN (XJ b.2)))) (k:=s.k)
     have hc0:Jn (KF s.ms) p=t0.t.1:=by rw [← h0];exact s.hI.AL.DK (List.mem_map_of_mem (f:=GZ.t) ht0)
     refine Mn hst .here (by rw [hrec.params];rfl) (EN hrec _ _ (by decide) (by decide)) ?_
     rw [hrec.assign,hrec.body]
     refine Gc<|ZU (X6 L) (fun⟨_,_,h⟩=>h) rfl<|QZ Fk (fun b10=>QS (vs:=(YM p).1.map Q3) rfl rfl rfl GC (KQ _) .here (SC (by rw [KQ];rfl)) (SI _)<|QF<|V4<|ZU (X6 L) (fun⟨_,_,h⟩=>h) rfl<|QZ X7 (fun b11=>QS (vs:=[_,_,_,_]) rfl rfl rfl Qg rfl .here (.here (.here (.here (.here .nil)))) ⟨rfl,rfl,rfl,rfl,trivial⟩<|QF<|Ik (.there (.there .here)) hrec.state<|AH<|Gc<|Gc<|ZU (X6 L) (fun⟨_,_,h⟩=>h) rfl<|QA (Qi rfl Db (.there (.there (.there (.there .here)))) (.here .nil))<|QA (QJ (vs:=(YM p).1.map Q3) rfl GC (.there .here) (PM.all _) (KQ _))<|QA (Tt Sd rfl rfl NW (.there (.there (.there (.there (.there .here))))) hfm)<|QA (QD rfl)<|QA (QM rfl rfl)<|QA (QM rfl rfl)<|QZ X7 (fun b12=>QS (vs:=[_,_,_,_]) rfl rfl rfl Qg rfl .here (.here (.here (.here (.here .nil)))) ⟨rfl,rfl,rfl,rfl,trivial⟩<|QA (QE rfl)<|QF ?_)))
     refine V4<|Gc<|ZU (X6 L) (fun⟨_,_,h⟩=>h) rfl<|QA (QD rfl)<|QF<|V4 ?_
     refine Ih rfl (fun hc=>?_) (fun hc=>?_)
     ·refine ZU (X6 L) (fun⟨_,_,h⟩=>h) rfl ?_
      refine QA (QJ (vs:=[_,_,_,_]) rfl Qg (.there .here) (.here (.here (.here (.here .nil)))) rfl)<|QA (QJ (vs:=[_,_,_,_]) rfl Qg .here (.here (.here (.here (.here .nil)))) rfl)<|QH rfl (fun w F hF h=>Nx (x:=x) (y:=t0.x) (r:=f) (s:=t0.t.1) hF h.2 (h.1.2.2 t0 ht0) (by omega) (by omega)) (fun x42=>QS (vs:=[_,_,_,_]) rfl rfl rfl Qg rfl (.there .here) (.here (.here (.here (.here .nil)))) ⟨rfl,rfl,rfl,rfl,trivial⟩<|QF<|V4<|ZU (X6 L) (fun⟨_,_,h⟩=>h) rfl<|QA (Qi rfl Db (.there (.there (.there (.there (.there .here))))) (.here .nil))<|QA (QJ (vs:=(YM p).1.map Q3) rfl GC (.there (.there .here)) (PM.all _) (KQ _))<|QA (QJ (vs:=[_,_,_,_]) rfl Qg (.there .here) (.here (.here (.here (.here .nil)))) rfl)<|G6 (k:=YM p) (v:=x42.v) Sd rfl rfl rfl NW (.there (.there (.there (.there (.there (.there .here))))))<|QF<|Ql ?_)
      refine Ij (.there (.there (.there .here))) (fun w1 hw1=>⟨rfl,⟨s.k+1,D5 s.ms ⟨x42,(f+t0.t.1,p)⟩,by rw [htk];exact s.hI.add hpw hpl (by rw [hc0])⟩,rfl,?_⟩)
      rw [ND hrec,← Ni hvn s.ms ⟨x42,(f+t0.t.1,p)⟩ s.hI.wd hpl] at hw1
      exact St.imp hw1 (.cons _ (.cons _ (.cons _ (List.Sublist.refl _)))) (fun F h=>⟨h.1.1.1,h.1.1.2.1,fun e he=>by
       rcases Bs he with rfl | he
       ·exact h.2
       ·exact h.1.1.2.2 e he⟩)
     ·cases hc
  letI:Df:=H6 D
  have hI:E4 (v+1).toNat s.ms (Jk (JN (XJ a.2)) (JN (XJ b.2))):=by have h:=s.hI;rw [hs,List.take_length] at h;exact h
  refine Ql<|QC<|QG<|QB<|QA (QE rfl)<|QF<|QC<|QG<|QG<|QB<|QA (Qi rfl Db (.there .here) (.here .nil))<|El (kv:=RS s.ms) (K:=Ve) rfl NW (.there (.there .here)) (fun b47=>QF<|QC<|Qa<|J0 (ι:=kE s.ms) [(2,_),(47,_)] (fun i=>[(14,i.v)]) (fun i=>(b47,IK m (RS s.ms).length i.seen)::(D,.deferred (some []))::(b9,.cells [.map (some m)].toArray 152 (0,0))::(m,ZA Ve (RS s.ms))::i.ob) (fun i F=>Vo F i.os) (fun i=>s.ms.length - i.seen.length) (⟨[],[],_,0,[],.nil,List.nodup_nil,(fun _ h=>by cases h),rfl,rfl⟩) ⟨rfl,rfl,trivial⟩ ⟨rfl,trivial⟩ (List.Sublist.refl _) (fun _ _ _ h=>by cases h) (fun i=>?_))
  simp only [List.cons_append,List.nil_append]
  refine QG<|QB<|PK (kv:=RS s.ms) (K:=Ve) (b:=m) rfl .here (.there (.there (.there .here))) (fun x hx=>QA (QM rfl (zD x))<|QF<|QC<|QG ?_)
  refine QQ rfl (fun hc=>?_) (fun hc=>?_)
  ·
   obtain ⟨j,rfl⟩:∃ j,x=some j:=by
    cases x with
    |none=>cases hc
    |some j=>exact⟨j,rfl⟩
   obtain ⟨hj,hjn⟩:=hx
   rw [IJ] at hj
   obtain ⟨hs1,hs2,hs3⟩:=Py i.nd i.lt hj hjn
   have htm:=Je hj
   have hkj:(RS s.ms)[j]?=some (YM (el s.ms j).t.2,(el s.ms j).x.v):=by rw [RS,List.getElem?_map,List.getElem?_eq_getElem hj,Zl hj];rfl
   generalize hte:el s.ms j=t at htm hkj
   have htw:=hI.wd t htm
   have htp:=hI.pw t htm
   refine QP<|QC<|Qa<|QG<|QB<|QA (F7 (kv:=RS s.ms) (K:=Ve) (p:=(YM t.t.2,t.x.v)) rfl .here (.there (.there (.there .here))) hkj)<|QA (QM rfl rfl)<|QA (QM rfl rfl)<|QZ Fk (fun b15=>QZ X7 (fun b16=>QS (vs:=(YM t.t.2).1.map Q3) rfl rfl rfl GC (KQ _) (.there .here) (SC (by rw [KQ];rfl)) (SI _)<|QS (vs:=[_,_,_,_]) rfl rfl rfl Qg rfl .here (.here (.here (.here (.here .nil)))) ⟨rfl,rfl,rfl,rfl,trivial⟩<|QF<|QC<|QG<|QB<|QA (QJ (vs:=[_,_,_,_]) rfl Qg .here (.here (.here (.here (.here .nil)))) rfl)<|QH rfl (fun w F hF ⟨⟨hG0,hMs⟩,hOs⟩=>Gv hF (hMs t htm)) (fun _=>QA (QU rfl rfl rfl)<|QF<|QC ?_)))
   refine QQ rfl (fun hc=>?_) (fun hc=>?_)
   ·
    have hnz:t.t.1≠0:=fun e=>by rw [e] at hc;cases hc
    refine PJ (b:=b15) (.there .here)<|JG (List.sublist_append_left [_,_,_,_,_] i.ob) mixed (by kernel_rfl)<|QK (QD rfl)<|QK (QJ (vs:=[_,_,_,_]) rfl Qg .here (.here (.here (.here (.here .nil)))) rfl)<|QK (QD rfl)<|QK (Qu rfl rfl (by omega))<|QK (Ap (h:=(v+1).toNat) rfl (congrArg (fun z:Int=>some (Value.int .i64 z)) (by omega)) qQ Qp (by omega))<|QY rfl (fun w F hF ⟨⟨⟨⟨hG0,hMs⟩,hOs⟩,_⟩,hk15⟩=>Sz (r:=⟨some ⟨b15,0,none⟩,(v+1).toNat,25⟩) hF (Ou hk15 htw (by omega)) (by rw [htw];omega)) (fun c61=>QK (Q4 rfl NM Zh (.cons (vs:=[_,_,_,_]) rfl rfl rfl (.here (.here (.here (.here .nil)))) (.cons (vs:=[_]) rfl rfl rfl (.skip (.skip (.skip (.skip (.here .nil))))) .nil))) ?_)
    refine Jv rfl (Q8 J3) Ji Zh rfl rfl (fun b63=>?_) (fun w h=>h.imp (.cons_cons _ (.cons_cons _ (.cons_cons _ (.cons_cons _ (.cons_cons _ (List.nil_sublist _)))))) (fun F h=>h.1))
    refine AI (List.perm_append_comm (l₁:=[_,_,_,_,_])) ?_
    refine EB (n:=i.n) (k:=1) (sz:=5) (news:=Yv ⟨t.x,c61,t.t⟩) rfl rfl J3 Ji Zh rfl Ff i.hr (Src.row (off:=0) (fun F ⟨⟨⟨⟨⟨⟨hG0,hMs⟩,hOs⟩,_⟩,hk15⟩,h61⟩,hs63⟩=>hs63) (fun j v hv=>by rw [Nat.zero_add];show((Yv ⟨t.x,c61,t.t⟩).toArray)[j]?=some v;rw [List.getElem?_toArray];exact hv) rfl) (by have:=i.bound;have:=hI.ln;omega) (by have:=i.bound;have:=hI.ln;omega) (SN _) (List.Sublist.refl _) (fun _ h=>h.1.1) (fun v64 ob64 hr64=>?_)
    refine AI (List.perm_append_comm (l₂:=[_,_,_,_,_]))<|QK (QE rfl)<|Q2<|Ql ?_
    exact Qo (⟨i.seen++[j],i.os++[⟨t.x,c61,t.t⟩],v64,i.n+1,ob64,by rw [List.flatMap_append];simpa using hr64,hs1,hs2,by rw [List.length_append,i.hn];rfl,jd hte hnz i.ho rfl⟩) (by show _ - (i.seen++[j]).length<_;rw [List.length_append];simp only [List.length_singleton];omega) ⟨rfl,rfl,rfl,trivial⟩ (.cons _ (List.Sublist.refl _)) (fun F ⟨⟨⟨⟨⟨⟨hG0,hMs⟩,hOs⟩,_⟩,hk15⟩,h61⟩,hs63⟩=>⟨⟨hG0,hMs⟩,fun o ho=>by
   rcases List.mem_append.1 ho with ho | ho
   ·exact hOs o ho
   ·rw [List.mem_singleton.1 ho];exact⟨hMs t htm,h61⟩⟩)
   ·
    have hz:t.t.1=0:=Ba.1 (by simpa using hc)
    refine QP<|Ql ?_
    exact Qo (⟨i.seen++[j],i.os,i.v,i.n,i.ob,i.hr,hs1,hs2,i.hn,yK hte hz i.ho⟩) (by show _ - (i.seen++[j]).length<_;rw [List.length_append];simp only [List.length_singleton];omega) ⟨rfl,rfl,rfl,trivial⟩ (.cons _ (.cons _ (List.Sublist.refl _))) (fun F h=>⟨h.1.1,h.1.2⟩)
  ·
   obtain rfl:x=none:=by
    cases x with
    |none=>rfl
    |some j=>cases hc
   rw [show vv (RS s.ms).length i.seen none=∀ j,j<(RS s.ms).length→j∈i.seen from rfl,IJ] at hx
   refine Q5 ?_
   repeat (first | refine Qc ?_ | refine QX (by rfl) ?_)
   refine Qd<|QC<|QG<|QB<|QA (QD rfl)<|XQ rfl (List.perm_append_comm (l₁:=[_,_,_,_]) (l₂:=i.ob)) (Oe qL i.hr (fun F h=>h.2) (kE.mem hI i) i.hn (by have:=i.bound;have:=hI.ln;omega)) (fun c=>JJ _ (fun w F hF h=>h.2) (fun hso=>?_))
   have hmn:JK c.1=XK (Jk (JN (XJ a.2)) (JN (XJ b.2))):=Ch hI i.nd i.lt hx i.ho hso.2.1 hso.2.2
   obtain ⟨r,hv2,hrn,hrc,hfix⟩:=Q7.fix (w0:=w) (F0:=F) (bs1:=[(b47,IK m (RS s.ms).length (kW i.seen none)),(D,.deferred (some [])),(b9,.cells [.map (some m)].toArray 152 (0,0)),(m,ZA Ve (RS s.ms))]) (G:=_) hso.1
   refine ZF (List.perm_append_comm (l₁:=c.2))<|xb hfix ?_
   rw [hv2]
   refine QF<|QC<|QG<|QB<|QA (QD rfl)<|QH rfl (fun w F hF ⟨⟨⟨⟨hG0,hMs⟩,hOs⟩,_⟩,hrow⟩=>GJ hF (q:=r.q) (n:=r.n) (cap:=r.cap) (ts:=c.1) ⟨by rw [hrn];exact hrow,fun t ht=>hOs t (hso.2.1.mem_iff.1 ht),rfl,by rw [hrn];exact hrc,hso.2.1.length_eq.trans (i.hn.trans hrn.symm)⟩ (hgl _ hG0) (XL hmn hpn) (fun t htm=>Nat.le_trans (Dc (XL hmn (fun x hx=>hx) t htm)) (by omega)) (by have:=congrArg List.length hmn;simp only [KO] at this;omega)) (fun c68=>?_)
   rw [hmn]
   refine QA (QM rfl rfl)<|QA (QM rfl rfl)<|QA (QE rfl)<|QA (QE rfl)<|QF<|QC<|QR<|y7 (.there .here) ?_
   exact Jb (c68) rfl (.tmp rfl (.tmp rfl .nil)) (by unfold vW;rw [if_pos hc0];rfl) (fun F ⟨⟨⟨⟨⟨hG0,hMs⟩,hOs⟩,_⟩,hrow⟩,h68⟩=>by unfold vV;rw [if_pos hc0];exact h68)
end
section
open Go.RowKit Ig
theorem Iv:((Tryz.prog.fieldsOf 24).toList.map fun f=>(f.name,f.offset,f.type))=[("Low",0,22),("High",1,22)]:=by kernel_rfl
theorem Aa:Tryz.prog.underlying 24=some (.struct (Tryz.prog.fieldsOf 24)):=by kernel_rfl
theorem Iu:Tryz.prog.stoodInHeld 24=false:=by kernel_rfl
theorem M4:Tryz.prog.eqGuardType Tryz.prog.depth 24=false:=by kernel_rfl
theorem F3:Tryz.prog.underlying 22=some .string:=by kernel_rfl
theorem AT {α β:Type} {f:α→β} {l:List α} {x y:β} (h:l.map f=[x,y]):∃ a b,l=[a,b]∧f a=x∧f b=y:=by
 match l,h with
 |[a,b],h=>simp only [List.map_cons,List.map_nil,List.cons.injEq,and_true] at h;exact⟨a,b,rfl,h.1,h.2⟩
theorem equal_span (w:World) (a b c d:List UInt8):(Op.equal 24 (.agg #[tx a,tx b]) (.agg #[tx c,tx d])).run Tryz.prog w = .ok (decide (a=c)&&decide (b=d)) w:=by
 obtain ⟨f1,f2,hf,h1,h2⟩:=AT Iv
 simp only [Prod.mk.injEq] at h1 h2
 exact equal_txs Aa Iu hf ⟨by rw [h1.1];decide,h1.2.1,by rw [h1.2.2];exact F3⟩ ⟨by rw [h2.1];decide,h2.2.1,by rw [h2.2.2];exact F3⟩ w a b c d
section
variable [Dr] [df:Df] {N:Nat} {m:Sl} {S:World→Prop} {ty:TypeId}
theorem Tv {yT:TypeId} {x y:Operand} {a b c d:List UInt8} (hx:ev m x=some (.agg #[tx a,tx b])) (hy:ev m y=some (.agg #[tx c,tx d])):Qt Tryz.prog N m S (.binOp .eql 24 x y yT) ty (.bool (decide (a=c)&&decide (b=d))):=fun ac w _ _ _ _ ha _=>by
 have h1:=equal_span w a b c d
 simp only [execOp,ha.ev hx,ha.ev hy,Sem.run_bind]
 have h2:(eqGuard .eql 24 x y (.agg #[tx a,tx b]) (.agg #[tx c,tx d])).run Tryz.prog w = .ok () w:=by
  simp [eqGuard,M4]
 rw [h2]
 simp [binOp,h1]
theorem O6 {yT:TypeId} {x y:Operand} {a b c d:List UInt8} (hx:ev m x=some (.agg #[tx a,tx b])) (hy:ev m y=some (.agg #[tx c,tx d])):Qt Tryz.prog N m S (.binOp .neq 24 x y yT) ty (.bool (!(decide (a=c)&&decide (b=d)))):=fun ac w _ _ _ _ ha _=>by
 have h1:=equal_span w a b c d
 simp only [execOp,ha.ev hx,ha.ev hy,Sem.run_bind]
 have h2:(eqGuard .neq 24 x y (.agg #[tx a,tx b]) (.agg #[tx c,tx d])).run Tryz.prog w = .ok () w:=by
  simp [eqGuard,M4]
 rw [h2]
 simp [binOp,h1]
end
end
section
open Go.RowKit Ig
def YC (w:List UInt8×List UInt8):Int:=Qm [YN w.1,YN w.2]
def Hs (have_:List UInt8×List UInt8) (e bad:Int) (want:List UInt8×List UInt8):Bool :=
 if bad=0 then(if YC want=0 then(e==0)&&(decide (have_.1=want.1)&&decide (have_.2=want.2)) else(have_.1==[])&&((have_.2==[])&&(e==YC want))) else(have_.1==[])&&((have_.2==[])&&(e==bad))
theorem MG {w:World} {F:Gs} {a b:List UInt8×List UInt8} {e d:Int} (hF:Fits F w) (hl:b.1.length≤1000000∧b.2.length≤1000000):QV Tryz.prog 26 [.agg #[tx a.1,tx a.2],.int .i64 e,.int .i64 d,.agg #[tx b.1,tx b.2]] w F (.bool (Hs a e d b)):=by
 refine QT.intro (G:=fun F=>True) Tryz.func26 rfl (by rfl) rfl rfl hF (fun F' hF'=>trivial)<|QG<|QB<|Qz rfl (vs:=[_,_]) rfl (fun b4=>Qz rfl (vs:=[_,_]) rfl (fun b7=>QA (QE rfl)<|QF<|QC<|QG<|QG<|QB<|QA (QD rfl)<|QA (QU rfl rfl rfl)<|QF<|QC ?_))
 refine QQ rfl (fun hc=>?_) (fun hc=>?_)
 ·
  have h10:=eq_of_beq hc
  refine QB<|QA (QJ (vs:=[_,_]) rfl JW .here (.here (.here .nil)) rfl)<|QH rfl (fun w F hF _=>R5 hF (hl)) (fun _=>QA (QE rfl)<|QF<|QC<|QG<|QG<|QB<|QA (QD rfl)<|QA (QU rfl rfl rfl)<|QF<|QC ?_)
  refine QQ rfl (fun hc=>?_) (fun hc=>?_)
  ·
   have h14:=bne_iff_ne.1 hc
   refine QG<|QB<|QA (QI rfl Zc JC)<|QA (Qi rfl JC (.there .here) (.here .nil))<|QA (Za rfl rfl)<|QA (QD rfl) ?_
   refine Qk (t:=18) rfl (fun hb18=>?_) (fun hb18=>?_)
   ·
    refine QL rfl rfl<|QA (QI rfl YO JC)<|QL rfl rfl<|QA (Qi rfl JC (.there .here) (.skip (.here .nil)))<|QL rfl rfl<|QA (Za rfl rfl)<|QA (Qj rfl rfl rfl)<|QA (QD rfl) ?_
    refine Qk (t:=23) rfl (fun hb23=>?_) (fun hb23=>?_)
    ·
     refine QL rfl rfl<|QA (QD rfl)<|QL rfl rfl<|QA (QD rfl)<|QL rfl rfl<|QA (QU rfl rfl rfl)<|QA (Qj rfl rfl rfl)<|QA (QE rfl)<|QF<|QC<|QR ?_
     exact QN (()) rfl (.tmp rfl .nil) (congrArg Value.bool (by unfold Hs YC;simp_all)) (fun F ⟨_,_⟩=>trivial)
    ·
     refine QO rfl rfl rfl<|QO rfl rfl rfl<|QO rfl rfl rfl<|QA (Qh rfl rfl rfl)<|QA (QE rfl)<|QF<|QC<|QR ?_
     exact QN (()) rfl (.tmp rfl .nil) (congrArg Value.bool (by unfold Hs YC;simp_all)) (fun F ⟨_,_⟩=>trivial)
   ·
    refine QO rfl rfl rfl<|QO rfl rfl rfl<|QO rfl rfl rfl<|QA (Qh rfl rfl rfl)<|QA (QD rfl)<|QO rfl rfl rfl<|QO rfl rfl rfl<|QO rfl rfl rfl<|QA (Qh rfl rfl rfl)<|QA (QE rfl)<|QF<|QC<|QR ?_
    exact QN (()) rfl (.tmp rfl .nil) (congrArg Value.bool (by unfold Hs YC;simp_all)) (fun F ⟨_,_⟩=>trivial)
  ·
   have h14:=bne_eq_false_iff_eq.1 hc
   refine QP<|QC<|QG<|QB<|QA (QD rfl)<|QA (QU rfl rfl rfl)<|QA (QD rfl) ?_
   refine Qk (t:=30) rfl (fun hb30=>?_) (fun hb30=>?_)
   ·
    refine QL rfl rfl<|QA (QJ (vs:=[_,_]) rfl JW (.there .here) (.here (.here .nil)) rfl)<|QL rfl rfl<|QA (QJ (vs:=[_,_]) rfl JW .here (.here (.here .nil)) rfl)<|QL rfl rfl<|QA (Tv rfl rfl)<|QA (Qj rfl rfl rfl)<|QA (QE rfl)<|QF<|QC<|QR ?_
    exact QN (()) rfl (.tmp rfl .nil) (congrArg Value.bool (by unfold Hs YC;simp_all)) (fun F ⟨_,_⟩=>trivial)
   ·
    refine QO rfl rfl rfl<|QO rfl rfl rfl<|QO rfl rfl rfl<|QA (Qh rfl rfl rfl)<|QA (QE rfl)<|QF<|QC<|QR ?_
    exact QN (()) rfl (.tmp rfl .nil) (congrArg Value.bool (by unfold Hs YC;simp_all)) (fun F ⟨_,_⟩=>trivial)
 ·
  have h10:¬ d=0:=fun e=>by rw [e] at hc;cases hc
  refine QP<|QC<|QG<|QG<|QB<|QA (QD rfl)<|QA (QU rfl rfl rfl)<|QF<|QC ?_
  refine QQ rfl (fun hc=>?_) (fun hc=>?_)
  ·
   have h14:=bne_iff_ne.1 hc
   refine QG<|QB<|QA (QI rfl Zc JC)<|QA (Qi rfl JC (.there .here) (.here .nil))<|QA (Za rfl rfl)<|QA (QD rfl) ?_
   refine Qk (t:=18) rfl (fun hb18=>?_) (fun hb18=>?_)
   ·
    refine QL rfl rfl<|QA (QI rfl YO JC)<|QL rfl rfl<|QA (Qi rfl JC (.there .here) (.skip (.here .nil)))<|QL rfl rfl<|QA (Za rfl rfl)<|QA (Qj rfl rfl rfl)<|QA (QD rfl) ?_
    refine Qk (t:=23) rfl (fun hb23=>?_) (fun hb23=>?_)
    ·
     refine QL rfl rfl<|QA (QD rfl)<|QL rfl rfl<|QA (QD rfl)<|QL rfl rfl<|QA (QU rfl rfl rfl)<|QA (Qj rfl rfl rfl)<|QA (QE rfl)<|QF<|QC<|QR ?_
     exact QN (()) rfl (.tmp rfl .nil) (congrArg Value.bool (by unfold Hs YC;simp_all)) (fun F _=>trivial)
    ·
     refine QO rfl rfl rfl<|QO rfl rfl rfl<|QO rfl rfl rfl<|QA (Qh rfl rfl rfl)<|QA (QE rfl)<|QF<|QC<|QR ?_
     exact QN (()) rfl (.tmp rfl .nil) (congrArg Value.bool (by unfold Hs YC;simp_all)) (fun F _=>trivial)
   ·
    refine QO rfl rfl rfl<|QO rfl rfl rfl<|QO rfl rfl rfl<|QA (Qh rfl rfl rfl)<|QA (QD rfl)<|QO rfl rfl rfl<|QO rfl rfl rfl<|QO rfl rfl rfl<|QA (Qh rfl rfl rfl)<|QA (QE rfl)<|QF<|QC<|QR ?_
    exact QN (()) rfl (.tmp rfl .nil) (congrArg Value.bool (by unfold Hs YC;simp_all)) (fun F _=>trivial)
  ·
   have h14:=bne_eq_false_iff_eq.1 hc
   refine QP<|QC<|QG<|QB<|QA (QD rfl)<|QA (QU rfl rfl rfl)<|QA (QD rfl) ?_
   refine Qk (t:=30) rfl (fun hb30=>?_) (fun hb30=>?_)
   ·
    refine QL rfl rfl<|QA (QJ (vs:=[_,_]) rfl JW (.there .here) (.here (.here .nil)) rfl)<|QL rfl rfl<|QA (QJ (vs:=[_,_]) rfl JW .here (.here (.here .nil)) rfl)<|QL rfl rfl<|QA (Tv rfl rfl)<|QA (Qj rfl rfl rfl)<|QA (QE rfl)<|QF<|QC<|QR ?_
    exact QN (()) rfl (.tmp rfl .nil) (congrArg Value.bool (by unfold Hs YC;simp_all)) (fun F _=>trivial)
   ·
    refine QO rfl rfl rfl<|QO rfl rfl rfl<|QO rfl rfl rfl<|QA (Qh rfl rfl rfl)<|QA (QE rfl)<|QF<|QC<|QR ?_
    exact QN (()) rfl (.tmp rfl .nil) (congrArg Value.bool (by unfold Hs YC;simp_all)) (fun F _=>trivial)
end
section
open Go.RowKit Ig
def Hp (c:Rat×Rat) (bs:List (Rat×Rat)) (ks:List Int) (i:Nat):Rat×Rat:=(List.range i).foldl (fun a j=>if Qf ks j>0 then V7 a (Bn (el bs j) (Qf ks j)) else a) c
theorem DZ (c:Rat×Rat) (bs:List (Rat×Rat)) (ks:List Int) (i:Nat):Hp c bs ks (i+1)=if Qf ks i>0 then V7 (Hp c bs ks i) (Bn (el bs i) (Qf ks i)) else Hp c bs ks i:=by
 unfold Hp;rw [List.range_succ,List.foldl_append];rfl
def qT (a b:Rat×Rat):Rat×Rat:=(a.1+b.1,a.2+b.2)
def EX (bs:List (Rat×Rat)) (l:List Tm):Rat×Rat:=l.foldl (fun a t=>qT a (Hp (t.1,t.1) bs t.2 t.2.length)) (0,0)
theorem FP {ts:List XZ} {bs:List (Rat×Rat)} {i:Nat} (h:i<ts.length):EX bs (JK (ts.take (i+1)))=qT (EX bs (JK (ts.take i))) (Hp ((el ts i).t.1,(el ts i).t.1) bs (el ts i).t.2 (el ts i).t.2.length):=by
 rw [Xw h];unfold EX;rw [List.foldl_append];rfl
def PI (a:Rat×Rat) (k:Nat):Prop:=JQ a.1≤k∧JQ a.2≤k
theorem PI.mono {a:Rat×Rat} {k l:Nat} (h:PI a k) (g:k≤l):PI a l:=⟨Nat.le_trans h.1 g,Nat.le_trans h.2 g⟩
theorem Ec {r:Rat} {l:List Rat} {k:Nat} (h:JQ r≤k) (hl:∀ x∈l,JQ x≤k):PI (K7 r l) k:=Po l (r,r) h h hl
theorem AW {a b:Rat×Rat} {m n:Nat} (ha:PI a m) (hb:PI b n):PI (V7 a b) (m+n):=by
 have h:∀ x y:Rat,JQ x≤m→JQ y≤n→JQ (x*y)≤m+n:=fun x y h1 h2=>by have:=Jz x y;omega
 unfold V7
 refine Ec (h _ _ ha.1 hb.1) fun x hx=>?_
 simp only [List.mem_cons,List.not_mem_nil,or_false] at hx
 rcases hx with rfl | rfl | rfl
 ·exact h _ _ ha.1 hb.2
 ·exact h _ _ ha.2 hb.1
 ·exact h _ _ ha.2 hb.2
theorem Tz {a:Rat×Rat} {n:Int} {m:Nat} (ha:PI a m) (hn:n≤12):PI (Bn a n) (12*m+1):=by
 have h:∀ x:Rat,JQ x≤m→JQ (x^n.toNat)≤12*m+1:=fun x hx=>by
  have h1:=Gh x n.toNat
  have h2:n.toNat*JQ x≤12*m:=Nat.mul_le_mul (by omega) hx
  omega
 have hs:PI (K7 (a.1^n.toNat) [a.2^n.toNat]) (12*m+1):=Ec (h _ ha.1) fun x hx=>by
  simp only [List.mem_cons,List.not_mem_nil,or_false] at hx
  rw [hx];exact h _ ha.2
 refine⟨?_,hs.2⟩
 unfold Bn
 dsimp only
 split
 ·have:JQ (0:Rat)≤1:=by decide
  omega
 ·exact hs.1
theorem xW {a b:Rat×Rat} {m n:Nat} (ha:PI a m) (hb:PI b n):PI (qT a b) (m+n+1):=by
 have h1:=Vr a.1 b.1
 have h2:=Vr a.2 b.2
 have h3:=ha.1
 have h4:=ha.2
 have h5:=hb.1
 have h6:=hb.2
 exact⟨by show JQ (a.1+b.1)≤_;omega,by show JQ (a.2+b.2)≤_;omega⟩
theorem ql {c:Rat×Rat} {bs:List (Rat×Rat)} {ks:List Int} (hc:PI c 2400) (hx:∀ x∈bs,PI x 2400) (hk:∀ k∈ks,0≤k∧k≤12):∀ i,i≤bs.length→i≤ks.length→PI (Hp c bs ks i) (2400+i*28801):=by
 intro i
 induction i with
 |zero=>intro _ _;simpa [Hp] using hc
 |succ i ih =>
  intro h1 h2
  have h3:=ih (by omega) (by omega)
  have h6:=hx _ (Je (show i<bs.length by omega))
  have h7:0≤Qf ks i∧Qf ks i≤12:=by rw [Xn (show i<ks.length by omega)];exact hk _ (Je (by omega))
  rw [DZ]
  split
  ·exact(AW h3 (Tz h6 h7.2)).mono (by omega)
  ·exact h3.mono (by omega)
theorem Up {bs:List (Rat×Rat)} {B:Nat}:∀ (l:List Tm) (a:Rat×Rat) (k:Nat),PI a k→(∀ t∈l,PI (Hp (t.1,t.1) bs t.2 t.2.length) B)→PI (l.foldl (fun a t=>qT a (Hp (t.1,t.1) bs t.2 t.2.length)) a) (k+l.length*(B+1))
 |[],a,k,h,_=>by simpa using h
 |t::l,a,k,h,hl=>by
  have h1:=Up l (qT a (Hp (t.1,t.1) bs t.2 t.2.length)) _ (xW h (hl t (by simp))) fun t ht=>hl t (by simp [ht])
  rw [List.foldl_cons,List.length_cons,Nat.add_mul]
  exact h1.mono (by omega)
def Y0 (s:List UInt8×List UInt8):Rat×Rat:=(JM s.1,JM s.2)
def ya (p:Pt) (ss:List (List UInt8×List UInt8)):(List UInt8×List UInt8)×Int :=
 if P9 p ss.length=0 then(if Qm (ss.map fun s=>Jl s.1 s.2)=0 then Vx (EX (ss.map Y0) (JN p)) else(([],[]),Qm (ss.map fun s=>Jl s.1 s.2))) else(([],[]),P9 p ss.length)
structure dh (n:Nat) where
 i:Nat
 x:Sp
 le:i≤n
structure di (n:Nat) where
 j:Nat
 y:Sp
 le:j≤n
theorem Lm {ss:List (List UInt8×List UInt8)} {j:Nat} (h:j<ss.length):el (ss.map Y0) j=Y0 (el ss j):=by rw [Zl (by simpa using h),Zl h];simp
def ze (x:Sp):List Value:=C8 x.lo++C8 x.hi
theorem Us {w:World} {F:Gs} {a:VK} {q:Option Addr} {n cap:Nat} {ss:List (List UInt8×List UInt8)} (hF:Fits F w) (hGl:JF F) (hR:JB F a.1.q a.1.n 2 (a.2.flatMap Wu)) (hA:Yy F a.2) (ht:Vn a) (hS:JB F q n 2 (ss.flatMap TX)) (hn:ss.length=n) (hl:∀ s∈ss,s.1.length≤1000000∧s.2.length≤1000000) (hnb:n≤1000000) :
  QV Tryz.prog 81 [a.1.v,.slice q n cap] w F (.tuple #[.agg #[tx (ya (XJ a.2) ss).1.1,tx (ya (XJ a.2) ss).1.2],.int .i64 (ya (XJ a.2) ss).2]):=by
 dsimp only [Sr.v]
 refine QT.intro (G:=fun F=>JF F∧JB F a.1.q a.1.n 2 (a.2.flatMap Wu)∧Yy F a.2∧JB F q n 2 (ss.flatMap TX)) Tryz.func81 rfl (by rfl) rfl rfl hF (fun F' hF'=>⟨hGl.le hF',hR.le hF',hA.le hF',hS.le hF'⟩)<|QG<|QB ?_
 refine QZ Zg (fun b4=>?_)
 refine QA (QE rfl)<|QF<|QC<|QG<|QG<|QB<|QA (QD rfl)<|QA (QD rfl)<|QA (Qn rfl TZ) ?_
 refine QH rfl (fun w F hF ⟨hGl,hR,hA,hS⟩=>CJ hF (hGl) (hR) (hA) (ht) (hnb)) (fun _=>?_)
 refine QA (QE rfl)<|QF<|QC<|QG<|QB<|QA (QD rfl)<|QA (QU rfl rfl rfl)<|QF<|QC ?_
 refine QQ rfl (fun hc=>?_) (fun hc=>?_)
 ·
  have hc0:=bne_iff_ne.1 hc
  refine QG<|QB<|QA (Q4 rfl YI Zg .nil)<|QA (QD rfl)<|QS (vs:=[_,_]) rfl rfl rfl JW rfl .here (.here (.here .nil)) ⟨rfl,rfl,trivial⟩<|QA (QE rfl)<|QF<|QC<|QR ?_
  exact Jb (()) rfl (.JX (c:=[_,_]) rfl JW .here (.tmp rfl .nil)) (by unfold ya;rw [hn,if_neg hc0];rfl) (fun F ⟨⟨hGl,hR,hA,hS⟩,_⟩=>trivial)
 ·
  have hc0:=bne_eq_false_iff_eq.1 hc
  have hpl:Qm [if decide ((n:Int)=0)=true then 2 else 0,if decide ((n:Int)>25)=true then 5 else 0]=0∧X5 (XJ a.2) ((n:Int) - 1)=0:=by
   unfold P9 at hc0
   by_cases g:Qm [if decide ((n:Int)=0)=true then 2 else 0,if decide ((n:Int)>25)=true then 5 else 0]=0
   ·rw [if_pos g] at hc0;exact⟨g,hc0⟩
   ·rw [if_neg g] at hc0;exact absurd hc0 g
  have hn1:=IA hpl.1
  have oa:=WA hpl.2
  refine QP<|QC<|QG<|QG<|QB<|QA (QD rfl) ?_
  refine QH rfl (fun w F hF ⟨⟨hGl,hR,hA,hS⟩,_⟩=>FR (f:=22) (es:=ss.map fun s=>Jl s.1 s.2) (vs:=fun i=>TX (el ss i)) (c1:=[]) (c2:=[]) (G0:=JF) hF (fun F F' hle h=>h.le hle) hGl hS (by rw [List.length_map];exact hn) (by omega)
   (fun i hi=>⟨rfl,fun j v hv=>XW (f:=TX) (l:=ss) (fun _=>rfl) (by omega) hv⟩)
   (fun i hi v hv=>by
    unfold TX at hv
    simp only [List.mem_cons,List.not_mem_nil,or_false] at hv
    rcases hv with rfl | rfl<;>rfl)
   (fun i hi w F hF hG=>by
    rw [List.getElem_map,← Zl (show i<ss.length by simpa using hi)]
    exact Yr hF hG (hl _ (Je (show i<ss.length by simpa using hi))))) (fun _=>?_)
  refine QA (QE rfl)<|QF<|QC<|QG<|QB<|QA (QD rfl)<|QA (QU rfl rfl rfl)<|QF<|QC ?_
  refine QQ rfl (fun hc=>?_) (fun hc=>?_)
  ·
   have hd0:=bne_iff_ne.1 hc
   refine QG<|QB<|QA (Q4 rfl YI Zg .nil)<|QA (QD rfl)<|QS (vs:=[_,_]) rfl rfl rfl JW rfl .here (.here (.here .nil)) ⟨rfl,rfl,trivial⟩<|QA (QE rfl)<|QF<|QC<|QR ?_
   exact Jb (()) rfl (.JX (c:=[_,_]) rfl JW .here (.tmp rfl .nil)) (by unfold ya;rw [hn,if_pos hc0,if_neg hd0];rfl) (fun F ⟨⟨⟨hGl,hR,hA,hS⟩,_⟩,_⟩=>trivial)
  ·
   have hd0:=bne_eq_false_iff_eq.1 hc
   have hcs:∀ s∈ss,Jl s.1 s.2=0:=fun s hs=>FM hd0 _ (List.mem_map.2 ⟨s,hs,rfl⟩)
   have hss:∀ s∈ss,PI (Y0 s) 2400:=fun s hs=>by
    have h3:=Ys (hcs s hs)
    exact⟨J4 h3.1,J4 h3.2.1⟩
   have hxs:∀ x∈ss.map Y0,PI x 2400:=fun x hx=>by
    obtain ⟨s,hs,rfl⟩:=List.mem_map.1 hx
    exact hss s hs
   have hpa:∀ t∈JN (XJ a.2),PW t.2:=oa.pw (by omega)
   have hpk:∀ t∈JN (XJ a.2),∀ k∈t.2,0≤k∧k≤12:=fun t ht=>by
    unfold JN at ht
    obtain ⟨x,hx,rfl⟩:=List.mem_map.1 ht
    exact(VN (oa.term x hx)).2.1
   have hwd:∀ t∈JN (XJ a.2),t.2.length=n:=fun t ht=>by have:=oa.wide t ht;omega
   have la:(JN (XJ a.2)).length≤64:=by unfold JN;rw [List.length_map];exact oa.len
   have hsl2:(ss.map Y0).length=n:=by rw [List.length_map];exact hn
   have hvm:∀ t∈JN (XJ a.2),∀ i,i≤n→PI (Hp (t.1,t.1) (ss.map Y0) t.2 i) 722425:=fun t ht i hi=>by
    have h1:=ql (c:=(t.1,t.1)) ⟨oa.sz t ht,oa.sz t ht⟩ hxs (hpk t ht) i (by omega) (by rw [hwd t ht];exact hi)
    have h2:i*28801≤25*28801:=Nat.mul_le_mul_right _ (by omega)
    exact h1.mono (by omega)
   have hev:∀ l:List Tm,(∀ t∈l,t∈JN (XJ a.2))→l.length≤64→PI (EX (ss.map Y0) l) 50000000:=fun l hl h64=>by
    have h1:=Up (bs:=ss.map Y0) (B:=722425) l (0,0) 1 ⟨by decide,by decide⟩ fun t ht=>hvm t (hl t ht) _ (Nat.le_of_eq (hwd t (hl t ht)))
    have h3:l.length*722426≤64*722426:=Nat.mul_le_mul_right _ h64
    unfold EX
    exact h1.mono (by omega)
   refine QP<|QC<|QG<|QB ?_
   refine QH rfl (fun w F hF ⟨⟨⟨hGl,hR,hA,hS⟩,_⟩,_⟩=>vY hF (by omega) (by omega)) (fun x28=>?_)
   refine QH rfl (fun w F hF ⟨⟨⟨⟨hGl,hR,hA,hS⟩,_⟩,_⟩,⟨h28,h28_⟩⟩=>Kc hF (x:=x28) (ps:=[]) ⟨by assumption,by assumption⟩ (JB.nil F _ _) (fun p hp=>absurd hp (List.not_mem_nil)) rfl (by omega) ⟨by decide,fun p hp=>absurd hp (List.not_mem_nil)⟩) (fun c29=>?_)
   refine QZ KB (fun b8=>?_)
   refine QS (vs:=[_,_,_,_,_,_,_,_]) rfl rfl rfl XN rfl .here (.here (.here (.here (.here (.here (.here (.here (.here .nil)))))))) ⟨rfl,rfl,rfl,rfl,rfl,rfl,rfl,rfl,trivial⟩<|QF<|QC<|QG<|QG<|QB<|QA (QD rfl) ?_
   refine QH rfl (fun w F hF ⟨⟨⟨⟨⟨hGl,hR,hA,hS⟩,_⟩,_⟩,⟨h28,h28_⟩⟩,h29⟩=>Vs hF hGl (a:=a) hR hA ht oa (by omega)) (fun c31=>?_)
   refine JJ _ (fun w F hF h=>And.intro h.2.2.2.1 (And.intro h.2.len (And.intro h.2.2.2.2.2 (fun t ht=>(h.2.2.1 t ht).2.2.1)))) (fun h31p=>?_)
   obtain ⟨e31,l31,m31,r31⟩:=h31p
   have hsub:∀ k,∀ t∈JK (c31.2.take k),t∈JN (XJ a.2):=fun k t ht=>by
    rw [← e31]
    unfold JK at ht ⊢
    obtain ⟨y,hy,rfl⟩:=List.mem_map.1 ht
    exact List.mem_map_of_mem (List.mem_of_mem_take hy)
   refine QA (Qn rfl J3)<|QA (QD rfl)<|QF<|QC<|Qa ?_
   refine J0 (ι:=dh c31.2.length) [(1,_),(4,_),(8,_),(31,_),(32,_)] (fun i=>[(33,.int .i64 ((i.i:Nat):Int))]) (fun i=>[(b8,.cells (ze i.x).toArray 138 (0,0)),(b4,.cells [tx [],tx []].toArray 24 (0,0))]) (fun i F=>ZT F i.x (EX (ss.map Y0) (JK (c31.2.take i.i)))) (fun i=>c31.2.length - i.i) (⟨0,c29,Nat.zero_le _⟩) ⟨rfl,rfl,rfl,rfl,rfl,trivial⟩ ⟨rfl,trivial⟩ (List.Sublist.refl _) (fun _ h=>h.1.2) (fun i=>?_)
   simp only [List.cons_append,List.nil_append]
   have hi:=i.le
   have hes:=hev (JK (c31.2.take i.i)) (fun t ht=>hsub _ t ht) (by rw [KO,List.length_take];omega)
   refine QG<|QB<|QA (QU rfl rfl rfl)<|QF<|QC<|QG ?_
   refine QQ rfl (fun hc=>?_) (fun hc=>?_)
   ·
    have hlt:i.i<c31.2.length:=by have:=of_decide_eq_true hc;omega
    have htm:=Je hlt
    have htA:(el c31.2 i.i).t∈JN (XJ a.2):=e31 ▸ List.mem_map_of_mem htm
    have hw1:=hwd _ htA
    have hpw:=hpa _ htA
    have hl1000:=hpw.2
    have hrl:=r31 _ htm
    have hct:=oa.sz _ htA
    refine QP<|QC<|QG<|Qa<|QG<|QB<|QA (JY (n:=c31.1.n) (i.i) (fun F ⟨⟨⟨⟨⟨⟨⟨hGl,hR,hA,hS⟩,_⟩,_⟩,⟨h28,h28_⟩⟩,h29⟩,h31⟩,hO⟩=>(h31).1) rfl rfl J3 Ji (by omega))<|QA (X9 (n:=c31.1.n) (vs:=[.int .i64 (el c31.2 (i.i)).x.n.s,.slice (el c31.2 (i.i)).x.n.q (el c31.2 (i.i)).x.n.n (el c31.2 (i.i)).x.n.cap,.int .i64 (el c31.2 (i.i)).x.d.s,.slice (el c31.2 (i.i)).x.d.q (el c31.2 (i.i)).x.d.n (el c31.2 (i.i)).x.d.cap,.slice (el c31.2 (i.i)).r.q (el c31.2 (i.i)).r.n (el c31.2 (i.i)).r.cap]) ((i.i)*5) (fun F ⟨⟨⟨⟨⟨⟨⟨hGl,hR,hA,hS⟩,_⟩,_⟩,⟨h28,h28_⟩⟩,h29⟩,h31⟩,hO⟩=>(h31).1) (by omega) rfl Ji rfl (fun j v hv=>XW (f:=Yv) (l:=c31.2) Yb (by omega) hv)) ?_
    refine QZ Zh (fun b10=>?_)
    refine QS (vs:=[_,_,_,_,_]) rfl rfl rfl Ji rfl .here (.here (.here (.here (.here (.here .nil))))) ⟨rfl,rfl,rfl,rfl,rfl,trivial⟩<|QF<|QC<|QG<|QB<|QA (QI rfl YF Qg)<|QA (QJ (vs:=[_,_,_,_]) rfl Qg .here (.here (.here (.here (.here .nil)))) rfl) ?_
    refine QH rfl (fun w F hF ⟨⟨⟨⟨⟨⟨⟨hGl,hR,hA,hS⟩,_⟩,_⟩,⟨h28,h28_⟩⟩,h29⟩,h31⟩,hO⟩=>Kc hF (x:=(el c31.2 i.i).x) (ps:=[]) ((h31.2.1 _ htm).1) (JB.nil F _ _) (fun p hp=>absurd hp (List.not_mem_nil)) rfl (by omega) ⟨by omega,fun p hp=>absurd hp (List.not_mem_nil)⟩) (fun c39=>?_)
    refine QZ KB (fun b11=>?_)
    refine QS (vs:=[_,_,_,_,_,_,_,_]) rfl rfl rfl XN rfl .here (.here (.here (.here (.here (.here (.here (.here (.here .nil)))))))) ⟨rfl,rfl,rfl,rfl,rfl,rfl,rfl,rfl,trivial⟩<|QF<|QC<|QG<|QG<|QB<|QA (QI rfl ZB Qs)<|QA (Qi rfl Qs (.there .here) (.skip (.skip (.skip (.skip (.here .nil))))))<|QA (Qn rfl Qe)<|QA (QD rfl)<|QF<|QC<|Qa ?_
    refine J0 (ι:=di (el c31.2 i.i).t.2.length) [(1,_),(4,_),(8,_),(11,_),(31,_),(32,_),(33,_),(41,_),(42,_)] (fun i2=>[(43,.int .i64 ((i2.j:Nat):Int))]) (fun i2=>[(b11,.cells (ze i2.y).toArray 138 (0,0)),(b10,.cells (Yv (el c31.2 i.i)).toArray 165 (0,0)),(b8,.cells (ze i.x).toArray 138 (0,0)),(b4,.cells [tx [],tx []].toArray 24 (0,0))]) (fun i2 F=>ZT F i2.y (Hp ((el c31.2 i.i).t.1,(el c31.2 i.i).t.1) (ss.map Y0) (el c31.2 i.i).t.2 i2.j)) (fun i2=>(el c31.2 i.i).t.2.length - i2.j) (⟨0,c39,Nat.zero_le _⟩) ⟨rfl,rfl,rfl,rfl,rfl,rfl,rfl,rfl,rfl,trivial⟩ ⟨rfl,trivial⟩ (List.Sublist.refl _) (fun _ h=>h.2) (fun i2=>?_)
    simp only [List.cons_append,List.nil_append]
    have hj:=i2.le
    have hvs:=hvm _ htA i2.j (by omega)
    refine QG<|QB<|QA (QU rfl rfl rfl)<|QF<|QC<|QG ?_
    refine QQ rfl (fun hc=>?_) (fun hc=>?_)
    ·
     have hlt2:i2.j<(el c31.2 i.i).t.2.length:=by have:=of_decide_eq_true hc;omega
     have hls:i2.j<ss.length:=by omega
     have hem:=Je hls
     have hck:=Ys (hcs _ hem)
     have hlh:=hl _ hem
     have hbx:=hss _ hem
     have hk12:0≤Qf (el c31.2 i.i).t.2 i2.j∧Qf (el c31.2 i.i).t.2 i2.j≤12:=by rw [Xn hlt2];exact hpk _ htA _ (Je hlt2)
     have hpz:=Tz hbx hk12.2
     refine QP<|QC<|QG<|Qa<|QG<|QB<|QA (QD rfl)<|QA (JY (n:=(el c31.2 i.i).r.n) (i2.j) (fun F ⟨⟨⟨⟨⟨⟨⟨⟨⟨hGl,hR,hA,hS⟩,_⟩,_⟩,⟨h28,h28_⟩⟩,h29⟩,h31⟩,hO⟩,h39⟩,hY⟩=>((h31.2.1 _ htm).2).1) rfl rfl Qe Qp (by omega))<|QA (Jf (n:=(el c31.2 i.i).r.n) ((i2.j)*1) (fun F ⟨⟨⟨⟨⟨⟨⟨⟨⟨hGl,hR,hA,hS⟩,_⟩,_⟩,⟨h28,h28_⟩⟩,h29⟩,h31⟩,hO⟩,h39⟩,hY⟩=>((h31.2.1 _ htm).2).1) (by omega) rfl Qp (JL (o:=(el c31.2 i.i).t.2) (by omega)))<|QA (QE rfl)<|QA (QE rfl)<|QF<|QC<|QG<|QB<|QA (QD rfl)<|QA (QU rfl rfl rfl)<|QF<|QC ?_
     refine QQ rfl (fun hc=>?_) (fun hc=>?_)
     ·
      have hpos:Qf (el c31.2 i.i).t.2 i2.j>0:=of_decide_eq_true hc
      refine Xv 9 (List.Sublist.refl _) mixed (by kernel_rfl) (by kernel_rfl) ?_
      simp only [List.take_succ_cons,List.take_zero,List.drop_succ_cons,List.drop_zero]
      refine QK (QJ (vs:=[_,_,_,_,_,_,_,_]) rfl XN .here (.here (.here (.here (.here (.here (.here (.here (.here .nil)))))))) rfl)<|QK (QD rfl)<|QK (QD rfl)<|QK (JY (n:=n) (i2.j) (fun F ⟨⟨⟨⟨⟨⟨⟨⟨⟨hGl,hR,hA,hS⟩,_⟩,_⟩,⟨h28,h28_⟩⟩,h29⟩,h31⟩,hO⟩,h39⟩,hY⟩=>hS) rfl rfl TZ JW (by omega))<|QK (X9 (n:=n) (vs:=[tx (el ss (i2.j)).1,tx (el ss (i2.j)).2]) ((i2.j)*2) (fun F ⟨⟨⟨⟨⟨⟨⟨⟨⟨hGl,hR,hA,hS⟩,_⟩,_⟩,⟨h28,h28_⟩⟩,h29⟩,h31⟩,hO⟩,h39⟩,hY⟩=>hS) (by omega) rfl JW rfl (fun j v hv=>XW (f:=TX) (l:=ss) (fun _=>rfl) (by omega) hv)) ?_
      refine QY rfl (fun w F hF ⟨⟨⟨⟨⟨⟨⟨⟨⟨hGl,hR,hA,hS⟩,_⟩,_⟩,⟨h28,h28_⟩⟩,h29⟩,h31⟩,hO⟩,h39⟩,hY⟩=>NO hF hGl hck.1 hck.2.1 hlh) (fun c55=>?_)
      refine QK (QD rfl) ?_
      refine QY rfl (fun w F hF ⟨⟨⟨⟨⟨⟨⟨⟨⟨⟨hGl,hR,hA,hS⟩,_⟩,_⟩,⟨h28,h28_⟩⟩,h29⟩,h31⟩,hO⟩,h39⟩,hY⟩,h55⟩=>TV (x:=c55) (a:=Y0 (el ss i2.j)) (n:=Qf (el c31.2 i.i).t.2 i2.j) hF h55 hk12 ⟨Nat.le_trans hbx.1 (by decide),Nat.le_trans hbx.2 (by decide)⟩) (fun c57=>?_)
      refine QY rfl (fun w F hF ⟨⟨⟨⟨⟨⟨⟨⟨⟨⟨⟨hGl,hR,hA,hS⟩,_⟩,_⟩,⟨h28,h28_⟩⟩,h29⟩,h31⟩,hO⟩,h39⟩,hY⟩,h55⟩,h57⟩=>TU (x:=i2.y) (y:=c57) hF hY h57 ⟨Nat.le_trans hvs.1 (by omega),Nat.le_trans hvs.2 (by omega)⟩ ⟨Nat.le_trans hpz.1 (by decide),Nat.le_trans hpz.2 (by decide)⟩) (fun c58=>?_)
      refine VD<|QS (vs:=[_,_,_,_,_,_,_,_]) rfl rfl rfl XN rfl .here (.here (.here (.here (.here (.here (.here (.here (.here .nil)))))))) ⟨rfl,rfl,rfl,rfl,rfl,rfl,rfl,rfl,trivial⟩<|QF<|Ql<|QC<|QB<|QA (Qu rfl rfl (by omega))<|QA (QD rfl)<|QF ?_
      exact Qo (⟨i2.j+1,c58,hlt2⟩) (by show(el c31.2 i.i).t.2.length - (i2.j+1)<(el c31.2 i.i).t.2.length - i2.j;omega) ⟨rfl,rfl,rfl,rfl,rfl,rfl,rfl,rfl,rfl,rfl,trivial⟩ (List.Sublist.refl _) (fun F ⟨⟨⟨⟨hB,_⟩,_⟩,_⟩,h58⟩=>⟨hB,by show ZT F c58 (Hp _ (ss.map Y0) _ (i2.j+1));rw [DZ,if_pos hpos,Lm hls];exact h58⟩)
     ·
      have hpos:¬ Qf (el c31.2 i.i).t.2 i2.j>0:=of_decide_eq_false hc
      refine QP<|Ql<|QC<|QB<|QA (Qu rfl rfl (by omega))<|QA (QD rfl)<|QF ?_
      exact Qo (⟨i2.j+1,i2.y,hlt2⟩) (by show(el c31.2 i.i).t.2.length - (i2.j+1)<(el c31.2 i.i).t.2.length - i2.j;omega) ⟨rfl,rfl,rfl,rfl,rfl,rfl,rfl,rfl,rfl,rfl,trivial⟩ (List.Sublist.refl _) (fun F ⟨hB,hY⟩=>⟨hB,by show ZT F i2.y (Hp _ (ss.map Y0) _ (i2.j+1));rw [DZ,if_neg hpos];exact hY⟩)
    ·
     have hge2:i2.j=(el c31.2 i.i).t.2.length:=by have:=of_decide_eq_false hc;omega
     refine Q5 ?_
     repeat (first | refine Qc ?_ | refine QX (by rfl) ?_)
     refine Qd<|QC<|QB<|QA (QJ (vs:=[_,_,_,_,_,_,_,_]) rfl XN (.there (.there .here)) (.here (.here (.here (.here (.here (.here (.here (.here .nil)))))))) rfl)<|QA (QJ (vs:=[_,_,_,_,_,_,_,_]) rfl XN .here (.here (.here (.here (.here (.here (.here (.here (.here .nil)))))))) rfl) ?_
     refine QH rfl (fun w F hF ⟨⟨⟨⟨⟨⟨⟨⟨⟨hGl,hR,hA,hS⟩,_⟩,_⟩,⟨h28,h28_⟩⟩,h29⟩,h31⟩,hO⟩,h39⟩,hY⟩=>qy (x:=i.x) (y:=i2.y) hF hO hY ⟨Nat.le_trans hes.1 (by decide),Nat.le_trans hes.2 (by decide)⟩ ⟨Nat.le_trans hvs.1 (by omega),Nat.le_trans hvs.2 (by omega)⟩) (fun c62=>?_)
     refine QS (vs:=[_,_,_,_,_,_,_,_]) rfl rfl rfl XN rfl (.there (.there .here)) (.here (.here (.here (.here (.here (.here (.here (.here .nil)))))))) ⟨rfl,rfl,rfl,rfl,rfl,rfl,rfl,rfl,trivial⟩<|QF<|Ql<|QC<|QB<|QA (Qu rfl rfl (by omega))<|QA (QD rfl)<|QF ?_
     exact Qo (⟨i.i+1,c62,hlt⟩) (by show c31.2.length - (i.i+1)<c31.2.length - i.i;omega) ⟨rfl,rfl,rfl,rfl,rfl,rfl,trivial⟩ (.cons _ (.cons _ (List.Sublist.refl _))) (fun F ⟨⟨⟨⟨hB,_⟩,_⟩,_⟩,h62⟩=>⟨hB,by show ZT F c62 (EX _ (JK (c31.2.take (i.i+1))));rw [FP hlt,← hge2];exact h62⟩)
   ·
    have hge:i.i=c31.2.length:=by have:=of_decide_eq_false hc;omega
    refine Q5 ?_
    repeat (first | refine Qc ?_ | refine QX (by rfl) ?_)
    refine Qd<|QC<|QG<|QB<|QA (QJ (vs:=[_,_,_,_,_,_,_,_]) rfl XN .here (.here (.here (.here (.here (.here (.here (.here (.here .nil)))))))) rfl) ?_
    refine QH rfl (fun w F hF ⟨⟨⟨⟨⟨⟨⟨hGl,hR,hA,hS⟩,_⟩,_⟩,⟨h28,h28_⟩⟩,h29⟩,h31⟩,hO⟩=>E9 hF hGl (x:=i.x) hO ⟨Nat.le_trans hes.1 (by decide),Nat.le_trans hes.2 (by decide)⟩) (fun _=>?_)
    rw [hge,List.take_length,e31]
    refine QA (QM rfl rfl)<|QA (QM rfl rfl)<|QS (vs:=[_,_]) rfl rfl rfl JW rfl (.there .here) (.here (.here .nil)) ⟨rfl,rfl,trivial⟩<|QA (QE rfl)<|QF<|QC<|QR ?_
    exact Jb (()) rfl (.JX (c:=[_,_]) rfl JW (.there .here) (.tmp rfl .nil)) (by unfold ya;rw [hn,if_pos hc0,if_pos hd0];rfl) (fun F ⟨⟨⟨⟨⟨⟨⟨⟨hGl,hR,hA,hS⟩,_⟩,_⟩,⟨h28,h28_⟩⟩,h29⟩,h31⟩,hO⟩,_⟩=>trivial)
end
section
open Go.RowKit Ig
def Y9 (f:List UInt8) (b:Nat) (k:List Int):Ge:=⟨f,⟨some ⟨b,0,none⟩,k.length,k.length⟩,k⟩
def NX (b:Nat) (ts:List Ge):VK:=(⟨some ⟨b,0,none⟩,ts.length,ts.length⟩,ts)
theorem J9 {F:Gs} {b:Nat} {k:List Int} {T:TypeId} (h:F b=some ((k.map Q3).toArray,T)):JP F ⟨some ⟨b,0,none⟩,k.length,k.length⟩ k:=⟨JB.of h (by simp),rfl,Nat.le_refl _⟩
theorem Ck {b:Nat} {ts:List Ge} (h:∀ t∈ts,t.f.length≤1000000∧t.k.length≤1000000) (hl:ts.length≤1000000):Vn (NX b ts):=⟨rfl,h,hl⟩
theorem Vm.vi {F:Gs} {s:Sr} {ts:List Ge} {p:Pt} (h:Vm F s ts p) (hp:∀ e∈p,e.1.length≤1000000∧e.2.length≤1000000) (hl:p.length≤1000000):Vn (s,ts):=by
 refine⟨h.2.2.2.2,fun t ht=>?_,?_⟩
 ·have:(t.f,t.k)∈XJ ts:=List.mem_map.2 ⟨t,ht,rfl⟩
  rw [h.2.2.1] at this
  exact hp _ this
 ·have:=congrArg List.length h.2.2.1
  simp only [XJ,List.length_map] at this
  show ts.length≤_
  omega
theorem UF {w:World} {F:Gs} {a b:VK} {v:Int} {P Q R:Pt} (hF:Fits F w) (hGl:JF F) (hA:YX F [a,b]) (ht:∀ e∈[a,b],Vn e) (hP:XJ a.2=P) (hQ:XJ b.2=Q) (hc:Zr v=0) (h1:X5 P v=0) (h2:X5 Q v=0) (h3:Di (XK (Jk (JN P) (JN Q)))=0) (h4:PU (XK (Jk (JN P) (JN Q)))=R) :
  QT Tryz.prog 40 [a.1.v,b.1.v,.int .i64 v] w F (fun(c:VK)=>.tuple #[c.1.v,.int .i64 0]) (fun c F=>Vm F c.1 c.2 R):=by
 have h:=LG hF hGl hA ht (v:=v)
 have e:WR [a,b] v=0:=by simp [WR,hc,hP,hQ,h1,h2,Qm]
 rw [vW,vV,if_pos e,if_pos e,hP,hQ,h3,h4] at h
 exact h
theorem N3 {w:World} {F:Gs} {a:VK} {n v:Int} {P R:Pt} (hF:Fits F w) (hGl:JF F) (hA:YX F [a]) (ht:∀ e∈[a],Vn e) (hP:XJ a.2=P) (hc:Zr n=0) (h1:X5 P n=0) (hv:vE v n=0) (h3:Di (XK (Kn v.toNat (JN P)))=0) (h4:PU (XK (Kn v.toNat (JN P)))=R) :
  QT Tryz.prog 41 [a.1.v,.int .i64 n,.int .i64 v] w F (fun(c:VK)=>.tuple #[c.1.v,.int .i64 0]) (fun c F=>Vm F c.1 c.2 R):=by
 have h:=Sv hF hGl hA ht (n:=n) (v:=v)
 have e:Qm [WR [a] n,vE v n]=0:=by simp [WR,hc,hP,h1,hv,Qm]
 rw [kB,kA,if_pos e,if_pos e,hP,h3,h4] at h
 exact h
theorem U4 {w:World} {F:Gs} {a:VK} {q:Option Addr} {n cap:Nat} {ls:List VK} {v u:Int} {P R:Pt} {Ws:List Pt} (hF:Fits F w) (hGl:JF F) (hA:YX F [a]) (hta:Vn a) (hR:JB F q n 1 (ls.map fun e=>e.1.v)) (hL:YX F ls) (hn:ls.length=n) (ht:∀ e∈ls,Vn e) (hP:XJ a.2=P) (hW:(ls.map fun e=>XJ e.2)=Ws)
  (hv:0≤v∧v≤24) (hu:0≤u∧u≤24) (ha:X5 P v=0) (hnv:(n:Int)=v+1) (hall:Qm (Ws.map fun e=>X5 e u)=0) (ho:Il (Ws.map JN) (u+1).toNat (JN P)) (h3:Di (Wq (Ws.map JN) (u+1).toNat (JN P))=0) (h4:PU (Wq (Ws.map JN) (u+1).toNat (JN P))=R) :
  QT Tryz.prog 44 [a.1.v,.int .i64 v,.slice q n cap,.int .i64 u] w F (fun(c:VK)=>.tuple #[c.1.v,.int .i64 0]) (fun c F=>Vm F c.1 c.2 R):=by
 have e1:Fl ls=Ws.map JN:=by rw [← hW,List.map_map];rfl
 have e2:WR ls u=0:=by
  unfold WR
  rw [if_pos ((VH u).2 hu),← hall,← hW,List.map_map];rfl
 have h:=Lv hF hGl hA hta hR hL hn ht hv hu (by rw [hP];exact ha) hnv e2 (by rw [e1,hP];exact ho) (q:=q) (cap:=cap)
 rw [e1,hP,h3,h4] at h
 exact h
end
section
open Go.RowKit Ig
structure Bd (p:List Tm) (k c z:Nat) (d:Int):Prop where
 can:Canon p
 wd:KA k p
 nn:∀ t∈p,(∀ x∈t.2,0≤x)∧t.2.sum≤d
 ln:p.length≤c
 sz:∀ t∈p,JQ t.1≤z
theorem Ru:∀ {l:List Int},(∀ x∈l,0≤x)→0≤l.sum
 |[],_=>Int.le_refl _
 |a::l,h=>by
  have h1:=Ru (l:=l) fun x hx=>h x (List.mem_cons_of_mem _ hx)
  have h2:=h a List.mem_cons_self
  rw [List.sum_cons];omega
theorem Pw:∀ k,(List.replicate k (0:Int)).sum=0
 |0=>rfl
 |k+1=>by rw [List.replicate_succ,List.sum_cons,Pw k];rfl
theorem FB {l:List Int} (h:∀ x∈l,0≤x):∀ x∈l,x≤l.sum:=by
 induction l with
 |nil=>intro x hx;cases hx
 |cons a l ih =>
  intro x hx
  have h0:0≤l.sum:=Ru (fun y hy=>h y (List.mem_cons_of_mem _ hy))
  have ha:=h a List.mem_cons_self
  rw [List.sum_cons]
  rcases List.mem_cons.1 hx with rfl | hx
  ·omega
  ·have:=ih (fun y hy=>h y (List.mem_cons_of_mem _ hy)) x hx;omega
theorem Bd.pw {p:List Tm} {k c z:Nat} {d:Int} (h:Bd p k c z d) (hk:k≤1000) (hd:d≤1000000):∀ t∈p,PW t.2:=fun t ht=>by
 obtain ⟨h1,h2⟩:=h.nn t ht
 exact⟨fun x hx=>⟨h1 x hx,by have:=FB h1 x hx;omega⟩,by rw [h.wd t ht];exact hk⟩
theorem Bd.mono {p:List Tm} {k c z c' z':Nat} {d d':Int} (h:Bd p k c z d) (hc:c≤c') (hz:z≤z') (hd:d≤d'):Bd p k c' z' d' :=
 ⟨h.can,h.wd,fun t ht=>⟨(h.nn t ht).1,Int.le_trans (h.nn t ht).2 hd⟩,Nat.le_trans h.ln hc,fun t ht=>Nat.le_trans (h.sz t ht) hz⟩
theorem GS {q:List Tm} (hq:Canon q) {z:Nat} (hz:∀ t∈q,JQ t.1≤z) (h1:1≤z) (x:List Int):JQ (Jn q x)≤z:=by
 by_cases h:∃ t∈q,t.2=x
 ·obtain ⟨t,ht,rfl⟩:=h
  rw [Wt hq ht];exact hz t ht
 ·rw [KL fun t ht e=>h ⟨t,ht,e⟩]
  exact Nat.le_trans (by decide) h1
theorem DJ {n z1 z2:Nat} {q:List Tm} (hq:Canon q) (hwq:KA n q) (hz:∀ t∈q,JQ t.1≤z2) (h1:1≤z2) (x:List Int):∀ (p:List Tm),KA n p→(∀ t∈p,JQ t.1≤z1)→JQ (Jn (Jk p q) x)≤p.length*(z1+z2+1)+1
 |[],_,_=>by show JQ (0:Rat)≤_;exact Nat.le_trans (by decide) (Nat.le_add_left 1 _)
 |s::p,hw,hs=>by
  have ih:=DJ hq hwq hz h1 x p hw.tail fun t ht=>hs t (List.mem_cons_of_mem _ ht)
  rw [We,Kb,U5 (hw s List.mem_cons_self) hwq,List.length_cons,Nat.add_mul,Nat.one_mul]
  split
  ·have h2:=Vr (s.1*Jn q (AZ x s.2)) (Jn (Jk p q) x)
   have h3:=Jz s.1 (Jn q (AZ x s.2))
   have h4:=GS hq hz h1 (AZ x s.2)
   have h5:=hs s List.mem_cons_self
   omega
  ·rw [Rat.zero_add];omega
theorem Ib {a b:List Int} (h:a.length=b.length) (ha:∀ x∈a,0≤x) (hb:∀ x∈b,0≤x):(∀ x∈Xu a b,0≤x)∧(Xu a b).sum=a.sum+b.sum:=by
 induction a generalizing b with
 |nil=>cases b with
  |nil=>exact⟨fun x hx=>(by cases hx),rfl⟩
  |cons y b=>simp at h
 |cons x a ih=>cases b with
  |nil=>simp at h
  |cons y b =>
   have:=ih (b:=b) (by simpa using h) (fun x hx=>ha x (List.mem_cons_of_mem _ hx)) (fun x hx=>hb x (List.mem_cons_of_mem _ hx))
   have h1:=ha x List.mem_cons_self
   have h2:=hb y List.mem_cons_self
   show(∀ z∈(x+y)::Xu a b,0≤z)∧((x+y)::Xu a b).sum=_
   refine⟨fun z hz=>?_,?_⟩
   ·rcases List.mem_cons.1 hz with rfl | hz
    ·omega
    ·exact this.1 z hz
   ·rw [List.sum_cons,this.2,List.sum_cons,List.sum_cons];omega
theorem Bd.z8 {p q:List Tm} {k c1 z1 c2 z2:Nat} {d1 d2:Int} (hp:Bd p k c1 z1 d1) (hq:Bd q k c2 z2 d2):∀ t∈Jk p q,t.2.length=k∧(∀ x∈t.2,0≤x)∧t.2.sum≤d1+d2:=fun t ht=>by
 obtain ⟨s,hs,u,hu,e⟩:=RM ht
 have h1:=hp.wd s hs
 have h2:=hq.wd u hu
 obtain ⟨h3,h4⟩:=Ib (by omega) (hp.nn s hs).1 (hq.nn u hu).1
 rw [e]
 have h5:=(hp.nn s hs).2
 have h6:=(hq.nn u hu).2
 exact⟨by rw [Kd (by omega)];exact h1,h3,by omega⟩
theorem Bd.mul {p q:List Tm} {k c1 z1 c2 z2:Nat} {d1 d2:Int} (hp:Bd p k c1 z1 d1) (hq:Bd q k c2 z2 d2) (h2:1≤z2):Bd (XK (Jk p q)) k (c1*c2) (c1*(z1+z2+1)+1) (d1+d2) where
 can:=Yt _
 wd:=(hp.wd.Jk hq.wd).XK
 nn:=fun t ht=>by
  obtain ⟨y,hy,e⟩:=Ds ht
  rw [← e];exact(hp.z8 hq y hy).2
 ln:=by
  have h1:=WM (Jk p q)
  rw [Wd] at h1
  exact Nat.le_trans h1 (Nat.mul_le_mul hp.ln hq.ln)
 sz:=fun t ht=>by
  rw [← Wt (Yt _) ht,Wo]
  have h1:=DJ hq.can hq.wd hq.sz h2 t.2 p hp.wd hp.sz
  have h3:p.length*(z1+z2+1)≤c1*(z1+z2+1):=Nat.mul_le_mul_right _ hp.ln
  omega
theorem Bd.Zm {p:List Tm} {k c z:Nat} {d:Int} (h:Bd p k c z d):YtknegjaeoffnbaaGreatDoor.Zm p≤c*(z+1):=Nat.le_trans (Dd h.sz) (Nat.mul_le_mul_right _ h.ln)
theorem Bd.zE {p q:List Tm} {k c1 z1 c2 z2:Nat} {d1 d2:Int} (hp:Bd p k c1 z1 d1) (hq:Bd q k c2 z2 d2) (hk:k≤1000) (h1:c1≤10000) (h2:c2≤10000) (hd:d1+d2≤1000000) (hd1:d1≤1000000) (hd2:d2≤1000000) (hs1:c1*(z1+1)≤20000000) (hs2:c2*(z2+1)≤20000000) (hs:c1*c2*(z1+z2+1)≤40000000):DQ p q k where
 wp:=hp.wd
 wq:=hq.wd
 lp:=Nat.le_trans hp.ln h1
 lq:=Nat.le_trans hq.ln h2
 pp:=hp.pw hk hd1
 pq:=hq.pw hk hd2
 pm:=fun s hs t ht=>by
  have h1:=hp.wd s hs
  have h2:=hq.wd t ht
  obtain ⟨h3,h4⟩:=Ib (by omega) (hp.nn s hs).1 (hq.nn t ht).1
  have h5:=(hp.nn s hs).2
  have h6:=(hq.nn t ht).2
  exact⟨fun x hx=>⟨h3 x hx,by have:=FB h3 x hx;omega⟩,by rw [Kd (by omega),h1];exact hk⟩
 zp:=Nat.le_trans hp.Zm hs1
 zq:=Nat.le_trans hq.Zm hs2
 zm:=by
  have h3:=Dd (l:=Jk p q) (k:=z1+z2) fun t ht=>by
   unfold Jk Xa at ht
   obtain ⟨s,hs,h1⟩:=List.mem_flatMap.1 ht
   obtain ⟨u,hu,rfl⟩:=List.mem_map.1 h1
   have:=Jz s.1 u.1
   have:=hp.sz s hs
   have:=hq.sz u hu
   show JQ (s.1*u.1)≤_
   omega
  rw [Wd] at h3
  have h4:p.length*q.length≤c1*c2:=Nat.mul_le_mul hp.ln hq.ln
  have h5:p.length*q.length*(z1+z2+1)≤c1*c2*(z1+z2+1):=Nat.mul_le_mul_right _ h4
  omega
theorem Bd.const (a:Rat) (k:Nat):Bd (Vc a k) k 1 (JQ a) 0:=by
 unfold Vc
 by_cases h:a=0
 ·rw [if_pos h]
  exact⟨Canon.nil,fun _ h=>(by cases h),fun _ h=>(by cases h),Nat.zero_le _,fun _ h=>(by cases h)⟩
 ·rw [if_neg h]
  refine⟨⟨by simp,fun t ht=>by rw [List.mem_singleton.1 ht];exact h⟩,fun t ht=>by rw [List.mem_singleton.1 ht];simp,fun t ht=>?_,by simp,fun t ht=>by rw [List.mem_singleton.1 ht];exact Nat.le_refl _⟩
  rw [List.mem_singleton.1 ht]
  refine⟨fun x hx=>?_,?_⟩
  ·rw [List.eq_of_mem_replicate hx];exact Int.le_refl _
  ·show(List.replicate k (0:Int)).sum≤0
   rw [Pw];exact Int.le_refl _
theorem PF:∀ (a:List Int),Xu a (List.replicate a.length 0)=a
 |[]=>rfl
 |x::a=>by
  show(x+0)::Xu a (List.replicate a.length 0)=_
  rw [PF a,Int.add_zero]
theorem CD {p:List Tm} {k:Nat} (hw:KA k p):Jk p (Vc 1 k)=p:=by
 rw [show Vc 1 k=[(1,List.replicate k 0)] from by unfold Vc;rw [if_neg (by decide)]]
 induction p with
 |nil=>rfl
 |cons t p ih =>
  rw [We,ih hw.tail]
  have:=hw t List.mem_cons_self
  show [(t.1*1,Xu t.2 (List.replicate k 0))]++p=_
  rw [Rat.mul_one,← this,PF];rfl
theorem Bd.pow {w:List Tm} {k z:Nat} (h:Bd w k 3 z 2) (hz:1≤z):Bd (Wf w k 0) k 1 1 0∧Bd (Wf w k 1) k 3 (z+4) 2∧Bd (Wf w k 2) k 9 (6*z+20) 4:=by
 have h0:Bd (Wf w k 0) k 1 1 0:=(Bd.const 1 k).mono (Nat.le_refl _) (by decide) (Int.le_refl _)
 have h1:Bd (Wf w k 1) k 3 (z+4) 2:=(h0.mul h hz).mono (by omega) (by omega) (by omega)
 exact⟨h0,h1,(h1.mul h hz).mono (by omega) (by omega) (by omega)⟩
end
section
open Go.RowKit Ig
def Sx:Nat→Nat
 |0=>1
 |1=>3
 |_=>9
def Iw (z:Nat):Nat→Nat
 |0=>z
 |1=>2*z+6
 |_=>9*z+34
theorem GD {l:List Int} (h:∀ x∈l,0≤x) (j:Nat):0≤(l.take j).sum∧(l.take j).sum≤l.sum:=by
 have h1:(l.take j).sum+(l.drop j).sum=l.sum:=by rw [← List.sum_append,List.take_append_drop]
 have h2:=Ru (l:=l.take j) fun x hx=>h x (List.mem_of_mem_take hx)
 have h3:=Ru (l:=l.drop j) fun x hx=>h x (List.mem_of_mem_drop hx)
 omega
section
variable {c:Rat} {ws:List (List Tm)} {ks:List Int} {k z:Nat}
theorem IV (hn:∀ x∈ks,0≤x) (h2:ks.sum≤2) (hw:∀ i,i<ks.length→Bd (el ws i) k 3 z 2) (hc:JQ c≤z) (hz:1≤z):∀ j,j≤ks.length→Bd (D1 c ws ks k j) k (Sx (ks.take j).sum.toNat) (Iw z (ks.take j).sum.toNat) (2*(ks.take j).sum)
 |0,_=>(Bd.const c k).mono (Nat.le_refl _) hc (Int.le_refl _)
 |j+1,hj=>by
  have ih:=IV hn h2 hw hc hz j (by omega)
  obtain ⟨p0,p1,p2⟩:=(hw j (by omega)).pow hz
  have hs:=GD hn j
  have hs1:=GD hn (j+1)
  have hst:=M1 (l:=ks) (i:=j) (by omega)
  have hd:0≤Qf ks j:=by rw [Xn (by omega)];exact hn _ (Je (by omega))
  obtain ⟨s,hse⟩:∃ s:Nat,(ks.take j).sum=(s:Int):=⟨_,(Int.toNat_of_nonneg hs.1).symm⟩
  obtain ⟨d,hde⟩:∃ d:Nat,Qf ks j=(d:Int):=⟨_,(Int.toNat_of_nonneg hd).symm⟩
  rw [hse] at ih hst
  rw [hst,hde]
  have hsd:s+d≤2:=by omega
  have e1:((s:Int)+(d:Int)).toNat=s+d:=by omega
  rw [e1]
  rw [show((s:Int)).toNat=s from rfl] at ih
  show Bd (XK (Jk (D1 c ws ks k j) (Wf (el ws j) k (Qf ks j).toNat))) k _ _ _
  rw [hde,show((d:Int)).toNat=d from rfl]
  match s,d,hsd with
  |s,0,_ =>
   rw [show Wf (el ws j) k 0=Vc 1 k from rfl,CD ih.wd,GO ih.can]
   exact ih.mono (Nat.le_refl _) (Nat.le_refl _) (by omega)
  |0,1,_=>exact(ih.mul p1 (by omega)).mono (by simp [Sx]) (by simp [Sx,Iw];omega) (by omega)
  |1,1,_=>exact(ih.mul p1 (by omega)).mono (by simp [Sx]) (by simp [Sx,Iw];omega) (by omega)
  |0,2,_=>exact(ih.mul p2 (by omega)).mono (by simp [Sx]) (by simp [Sx,Iw];omega) (by omega)
theorem ye (s:Nat):Sx s≤9:=by unfold Sx;split<;>omega
theorem zf {z:Nat} (s:Nat):Iw z s≤9*z+34:=by unfold Iw;split<;>omega
theorem N7 (hn:∀ x∈ks,0≤x) (h2:ks.sum≤2) (hw:∀ i,i<ks.length→Bd (el ws i) k 3 z 2) (hc:JQ c≤z) (hz:1≤z) {j:Nat} (hj:j≤ks.length):Bd (D1 c ws ks k j) k 9 (9*z+34) 4 :=
 (IV hn h2 hw hc hz j hj).mono (ye _) (zf _) (by have:=GD hn j;omega)
theorem F9 {w:List Tm} (h:Bd w k 3 z 2) (hz:1≤z) {d:Nat} (hd:d≤2):Bd (Wf w k d) k 9 (6*z+20) 4:=by
 obtain ⟨p0,p1,p2⟩:=h.pow hz
 match d,hd with
 |0,_=>exact p0.mono (by omega) (by omega) (by omega)
 |1,_=>exact p1.mono (by omega) (by omega) (by omega)
 |2,_=>exact p2
end
theorem Bd.add {p q:List Tm} {k c1 z1 c2 z2:Nat} {d:Int} (hp:Bd p k c1 z1 d) (hq:Bd q k c2 z2 d) (h1:1≤z1) (h2:1≤z2):Bd (XK (p++q)) k (c1+c2) (z1+z2+1) d where
 can:=Yt _
 wd:=(hp.wd.append hq.wd).XK
 nn:=fun t ht=>by
  obtain ⟨y,hy,e⟩:=Ds ht
  rw [← e]
  rcases List.mem_append.1 hy with hy | hy
  ·exact hp.nn y hy
  ·exact hq.nn y hy
 ln:=by
  have h3:=WM (p++q)
  rw [List.length_append] at h3
  have:=hp.ln
  have:=hq.ln
  omega
 sz:=fun t ht=>by
  rw [← Wt (Yt _) ht,Wo,Kb]
  have h3:=Vr (Jn p t.2) (Jn q t.2)
  have h4:=GS hp.can hp.sz h1 t.2
  have h5:=GS hq.can hq.sz h2 t.2
  omega
structure vI (ws:List (List Tm)) (k z:Nat) (l:List Tm):Prop where
 ln:l.length≤6
 nn:∀ t∈l,(∀ x∈t.2,0≤x)∧t.2.sum≤2
 wl:∀ t∈l,t.2.length≤ws.length
 sz:∀ t∈l,JQ t.1≤z
 ws:∀ w∈ws,Bd w k 3 z 2
theorem IU {ws:List (List Tm)} {k z:Nat} {l:List Tm} (h:vI ws k z l) (hz:1≤z):∀ i,i≤l.length→Bd (Wq ws k (l.take i)) k (9*i) (1+i*(9*z+35)) 4
 |0,_=>⟨Canon.nil,fun _ h=>(by cases h),fun _ h=>(by cases h),Nat.zero_le _,fun _ h=>(by cases h)⟩
 |i+1,hi=>by
  have ih:=IU h hz i (by omega)
  have hm:=Je (show i<l.length by omega)
  have hn:=h.nn _ hm
  have e:Wq ws k (l.take (i+1))=XK (Wq ws k (l.take i)++D1 (el l i).1 ws (el l i).2 k (el l i).2.length):=by
   unfold Wq;rw [ZJ (show i<l.length by omega),List.foldl_append];rfl
  rw [e]
  have hw:∀ j,j<(el l i).2.length→Bd (el ws j) k 3 z 2:=fun j hj=>h.ws _ (Je (Nat.lt_of_lt_of_le hj (h.wl _ hm)))
  have ht:=N7 (k:=k) hn.1 hn.2 hw (h.sz _ hm) hz (Nat.le_refl _)
  exact(ih.add ht (by omega) (by omega)).mono (by omega) (by rw [Nat.add_mul];omega) (by omega)
theorem yf {ws:List (List Tm)} {k z:Nat} {l:List Tm} (h:vI ws k z l) (hz:1≤z) (hz2:z≤2400) (hk:k≤1000):Il ws k l:=by
 have hp:∀ i,i≤l.length→Bd (Wq ws k (l.take i)) k 54 130000 4:=fun i hi=>by
  have h1:=IU h hz i hi
  have h2:=h.ln
  have h3:i*(9*z+35)≤6*21635:=Nat.mul_le_mul (by omega) (by omega)
  exact h1.mono (by omega) (by omega) (Int.le_refl _)
 have hw:∀ t∈l,∀ j,j<t.2.length→Bd (el ws j) k 3 z 2:=fun t ht j hj=>h.ws _ (Je (Nat.lt_of_lt_of_le hj (h.wl _ ht)))
 have hfull:=hp l.length (Nat.le_refl _)
 rw [List.take_length] at hfull
 refine⟨fun t ht j hj=>?_,fun i hi=>?_,hfull.pw hk (by omega),fun t ht=>Nat.le_trans (hfull.sz t ht) (by omega),Nat.le_trans hfull.ln (by omega)⟩
 ·have hn:=h.nn t ht
  have hb:=hw t ht j hj
  have hd:0≤Qf t.2 j∧Qf t.2 j≤2:=by
   rw [Xn hj]
   have:=FB hn.1 _ (Je hj)
   exact⟨hn.1 _ (Je hj),by omega⟩
  have hm:=N7 (k:=k) hn.1 hn.2 (hw t ht) (h.sz t ht) hz (Nat.le_of_lt hj)
  have hpw:=F9 hb hz (d:=(Qf t.2 j).toNat) (by omega)
  refine⟨hm.zE hpw hk (by omega) (by omega) (by omega) (by omega) (by omega) (by omega) (by omega) (by omega),fun i hi=>?_⟩
  have hpi:=F9 hb hz (d:=i) (by omega)
  exact hpi.zE hb hk (by omega) (by omega) (by omega) (by omega) (by omega) (by omega) (by omega) (by omega)
 ·have hm:=Je hi
  have hn:=h.nn _ hm
  have h1:=hp i (by omega)
  have h2:=N7 (k:=k) hn.1 hn.2 (hw _ hm) (h.sz _ hm) hz (Nat.le_refl _)
  refine⟨h1.pw hk (by omega),h2.pw hk (by omega),Nat.le_trans h1.ln (by omega),Nat.le_trans h2.ln (by omega),?_⟩
  rw [Xl]
  have:=h1.Zm
  have:=h2.Zm
  omega
end
section
open Go.RowKit Ig
theorem CH {p:Pt} {u:Int} {z:Nat} (h:Y6 p u) (hu:0≤u) (hl:p.length≤3) (hd:∀ e∈p,e.2.sum≤2) (hz:∀ t∈JN p,JQ t.1≤z):Bd (JN p) (u+1).toNat 3 z 2 where
 can:=h.can
 wd:=fun t ht=>by have:=h.wide t ht;omega
 nn:=fun t ht=>by
  refine⟨fun x hx=>(h.small t ht x hx).1,?_⟩
  unfold JN at ht
  obtain ⟨e,he,rfl⟩:=List.mem_map.1 ht
  exact hd e he
 ln:=by unfold JN;rw [List.length_map];exact hl
 sz:=hz
theorem KR {F:Gs} {b:Nat} {ts:List Ge} {T:TypeId} (h:F b=some ((ts.flatMap Wu).toArray,T)):JB F (NX b ts).1.q (NX b ts).1.n 2 ((NX b ts).2.flatMap Wu) :=
 JB.of h (Lk (f:=Wu) V0 ts)
theorem My {b:Nat} {ts:List Ge} (P:Pt) (hP:XJ ts=P) (hp:∀ e∈P,e.1.length≤1000000∧e.2.length≤1000000) (hl:P.length≤1000000):Vn (NX b ts):=by
 refine Ck (fun t ht=>?_) ?_
 ·have:(t.f,t.k)∈XJ ts:=List.mem_map.2 ⟨t,ht,rfl⟩
  rw [hP] at this;exact hp _ this
 ·have:=congrArg List.length hP
  simp only [XJ,List.length_map] at this;omega
theorem dA {a:VK} (h:Vn a):∀ e∈[a],Vn e:=fun e he=>by rw [List.mem_singleton.1 he];exact h
theorem gz {a b:VK} (h:Vn a) (k:Vn b):∀ e∈[a,b],Vn e:=fun e he=>by
 rcases List.mem_cons.1 he with rfl | he
 ·exact h
 ·exact dA k e he
theorem kY (a:List UInt8):qP .neq (tx a) (tx a)=some (.bool false):=by simp [qP,tx]
theorem Pj {F:Gs} {t:Ge} (h:JP F t.r t.k):Yy F [t]:=fun x hx=>by rw [List.mem_singleton.1 hx];exact h
theorem PC {F:Gs} {t:Ge} {ts:List Ge} (h:JP F t.r t.k) (hs:Yy F ts):Yy F (t::ts):=fun x hx=>by
 rcases List.mem_cons.1 hx with rfl | hx
 ·exact h
 ·exact hs x hx
theorem xS {F:Gs} {a:VK} (h1:JB F a.1.q a.1.n 2 (a.2.flatMap Wu)) (h2:Yy F a.2):YX F [a]:=fun x hx=>by rw [List.mem_singleton.1 hx];exact⟨h1,h2⟩
theorem kj {F:Gs} {a:VK} {l:List VK} (h1:JB F a.1.q a.1.n 2 (a.2.flatMap Wu)) (h2:Yy F a.2) (hs:YX F l):YX F (a::l):=fun x hx=>by
 rcases List.mem_cons.1 hx with rfl | hx
 ·exact⟨h1,h2⟩
 ·exact hs x hx
section
variable [Dr] [df:Df] {N:Nat} {m:Sl} {S:World→Prop} {ty:TypeId}
theorem Gp {yT:TypeId} {x y:Operand} {a b c d:List UInt8} (hx:ev m x=some (.agg #[tx a,tx b])) (hy:ev m y=some (.agg #[tx c,tx d])) (h1:a=c) (h2:b=d):Qt Tryz.prog N m S (.binOp .neq 24 x y yT) ty (.bool false):=by
 have h:=O6 (N:=N) (m:=m) (S:=S) (ty:=ty) (yT:=yT) hx hy
 rw [h1,h2] at h
 simpa using h
end
theorem M7 {w:World} {F:Gs} {a b:VK} {P:Pt} (hF:Fits F w) (hA:Vm F a.1 a.2 P) (hB:JB F b.1.q b.1.n 2 (b.2.flatMap Wu)) (hB2:Yy F b.2) (hl:b.2.length=b.1.n) (hP:XJ b.2=P) (hp:∀ e∈P,e.1.length≤1000000∧e.2.length≤1000000) (hpl:P.length≤1000000) :
  QV Tryz.prog 43 [a.1.v,b.1.v] w F (.bool true):=by
 have ht:=hA.vi hp hpl
 have h:=Tj (q:=a.1.q) (n:=a.1.n) (cap:=a.1.cap) (q2:=b.1.q) (n2:=b.1.n) (cap2:=b.1.cap) (a:=a.2) (b:=b.2) hF hA.1 hA.2.1 hB hB2 hA.2.2.2.2 hl (fun t h=>(ht.2.1 t h).2) ht.2.2
 rw [decide_eq_true (hA.2.2.1.trans hP.symm)] at h
 exact h
variable {w:World} {F:Gs}
theorem dR (hF:Fits F w) (hGl:JF F):QV Tryz.prog 71 [tx [49,50,46,53,48]] w F (.tuple #[tx [50,53,47,50],.int .i64 0]):=by
 have h:=CT (s:=[49,50,46,53,48]) hF hGl (by decide)
 rw [show SG [49,50,46,53,48]=([50,53,47,50],0) from by decide +kernel] at h
 exact h
theorem dQ (hF:Fits F w) (hGl:JF F):QV Tryz.prog 17 [tx [45,51,47,56],.int .i64 2] w F (.tuple #[tx [45,49,47,52],.int .i64 0]):=by
 have h:=RI (s:=[45,51,47,56]) (b:=2) hF hGl (by decide)
 rw [show Y2 [45,51,47,56] 2=([45,49,47,52],0) from by decide +kernel] at h
 exact h
theorem dP (hF:Fits F w) (hGl:JF F):QV Tryz.prog 18 [.agg #[tx [49,47,51],tx [50,47,51]],.int .i64 2] w F (.tuple #[.agg #[tx [49,47,52],tx [51,47,52]],.int .i64 0]):=by
 have h:=RB (lo:=[49,47,51]) (hi:=[50,47,51]) (b:=2) hF hGl (by decide)
 rw [show YA [49,47,51] [50,47,51] 2=(([49,47,52],[51,47,52]),0) from by decide +kernel] at h
 exact h
theorem dO (hF:Fits F w) (hGl:JF F):QV Tryz.prog 47 [.agg #[tx [45,49],tx [50]],.agg #[tx [45,51],tx [49]]] w F (.tuple #[.agg #[tx [45,54],tx [51]],.int .i64 0]):=by
 have h:=A3 (a:=([45,49],[50])) (b:=([45,51],[49])) hF hGl (by unfold short;decide) (by unfold short;decide)
 rw [show Bp V7 ([45,49],[50]) ([45,51],[49])=(([45,54],[51]),0) from by decide +kernel] at h
 exact h
theorem dN (hF:Fits F w) (hGl:JF F):QV Tryz.prog 48 [.agg #[tx [45,49],tx [50]],.int .i64 2] w F (.tuple #[.agg #[tx [48],tx [52]],.int .i64 0]):=by
 have h:=Tx (lo:=[45,49]) (hi:=[50]) (n:=2) hF hGl (by decide)
 rw [show I5 [45,49] [50] 2=(([48],[52]),0) from by decide +kernel] at h
 exact h
theorem Pe {a:VK} {q:Option Addr} {n cap:Nat} {ss:List (List UInt8×List UInt8)} {P:Pt} {lo hi:List UInt8} (hF:Fits F w) (hGl:JF F) (hR:JB F a.1.q a.1.n 2 (a.2.flatMap Wu)) (hA:Yy F a.2) (ht:Vn a) (hS:JB F q n 2 (ss.flatMap TX)) (hn:ss.length=n) (hl:∀ s∈ss,s.1.length≤1000000∧s.2.length≤1000000) (hnb:n≤1000000) (hP:XJ a.2=P) (h:ya P ss=((lo,hi),0)) :
  QV Tryz.prog 81 [a.1.v,.slice q n cap] w F (.tuple #[.agg #[tx lo,tx hi],.int .i64 0]):=by
 have h1:=Us (cap:=cap) hF hGl hR hA ht hS hn hl hnb
 rw [hP,h] at h1
 exact h1
theorem gJ (hF:Fits F w):QV Tryz.prog 66 [tx [120,95,49]] w F (.bool true):=by
 have h:=Ue (s:=[120,95,49]) hF (by decide)
 rw [show RJ [120,95,49]=true from by decide +kernel] at h
 exact h
theorem gI (hF:Fits F w):QV Tryz.prog 66 [tx [49,120]] w F (.bool false):=by
 have h:=Ue (s:=[49,120]) hF (by decide)
 rw [show RJ [49,120]=false from by decide +kernel] at h
 exact h
theorem yo:Il ([[([49],[0])],[([49],[1]),([45,49],[0])]].map JN) ((0:Int)+1).toNat (JN [([49],[0,2]),([49],[1,0])]):=by
 refine yf (z:=2400) ⟨by decide +kernel,by decide +kernel,by decide +kernel,by decide +kernel,fun w hw=>?_⟩ (by decide) (by decide) (by decide)
 simp only [List.map_cons,List.map_nil,List.mem_cons,List.not_mem_nil,or_false] at hw
 rcases hw with rfl | rfl
 ·exact CH (WA (v:=0) (by decide +kernel)) (by decide) (by decide) (by decide) (by decide +kernel)
 ·exact CH (WA (v:=0) (by decide +kernel)) (by decide) (by decide) (by decide) (by decide +kernel)
theorem S2 (hF:Fits F w) (hGl:JF F):QV Tryz.prog 16 [] w F (.bool true):=by
 refine QT.intro (G:=fun F=>JF F) Tryz.func16 rfl (by rfl) rfl rfl hF (fun F' hF'=>hGl.le hF')<|QG<|QB<|QA (QE rfl)<|QF<|QC<|QG<|QB<|QH rfl (fun w F hF hGl=>dR hF hGl) (fun _=>QA (QD rfl)<|QA (QM rfl rfl)<|QA (QM rfl rfl)<|QA (QE rfl)<|QA (QE rfl)<|QF<|QC<|QG<|QB<|QH rfl (fun w F hF ⟨hGl,_⟩=>dQ hF hGl) (fun _=>QA (QD rfl)<|QA (QM rfl rfl)<|QA (QM rfl rfl)<|QA (QE rfl)<|QA (QE rfl)<|QF ?_))
 refine QC<|QG<|QB<|QA (Q4 rfl YI Zg (.cons (vs:=[_]) rfl rfl rfl (.here .nil) (.cons (vs:=[_]) rfl rfl rfl (.skip (.here .nil)) .nil)))<|QH rfl (fun w F hF ⟨⟨hGl,_⟩,_⟩=>dP hF hGl) (fun _=>QA (QD rfl)<|QA (QM rfl rfl)<|QA (QM rfl rfl)<|QZ Zg (fun b5=>QS (vs:=[_,_]) rfl rfl rfl JW rfl .here (.here (.here .nil)) ⟨rfl,rfl,trivial⟩<|QA (QE rfl)<|QF<|QC<|QG<|QB<|QA (Q4 rfl YI Zg (.cons (vs:=[_]) rfl rfl rfl (.here .nil) (.cons (vs:=[_]) rfl rfl rfl (.skip (.here .nil)) .nil)))<|QA (Q4 rfl YI Zg (.cons (vs:=[_]) rfl rfl rfl (.here .nil) (.cons (vs:=[_]) rfl rfl rfl (.skip (.here .nil)) .nil)))<|QH rfl (fun w F hF ⟨⟨⟨hGl,_⟩,_⟩,_⟩=>dO hF hGl) (fun _=>QA (QD rfl)<|QA (QM rfl rfl)<|QA (QM rfl rfl)<|QZ Zg (fun b7=>QS (vs:=[_,_]) rfl rfl rfl JW rfl .here (.here (.here .nil)) ⟨rfl,rfl,trivial⟩<|QA (QE rfl)<|QF ?_))))
 refine QC<|QG<|QB<|QA (Q4 rfl YI Zg (.cons (vs:=[_]) rfl rfl rfl (.here .nil) (.cons (vs:=[_]) rfl rfl rfl (.skip (.here .nil)) .nil)))<|QH rfl (fun w F hF ⟨⟨⟨⟨hGl,_⟩,_⟩,_⟩,_⟩=>dN hF hGl) (fun _=>QA (QD rfl)<|QA (QM rfl rfl)<|QA (QM rfl rfl)<|QZ Zg (fun b9=>QS (vs:=[_,_]) rfl rfl rfl JW rfl .here (.here (.here .nil)) ⟨rfl,rfl,trivial⟩<|QA (QE rfl)<|QF<|QC<|QG<|QB<|QW rfl (Q8 Qe) Qp VE rfl rfl (fun b44=>QA (Q4 rfl ZM Xp (.cons (vs:=[_]) rfl rfl rfl (.here .nil) (.cons (vs:=[_]) rfl rfl rfl (.skip (.here .nil)) .nil)))<|QW rfl (Q8 Qe) Qp VE rfl rfl (fun b46=>QA (Q4 rfl ZM Xp (.cons (vs:=[_]) rfl rfl rfl (.here .nil) (.cons (vs:=[_]) rfl rfl rfl (.skip (.here .nil)) .nil)))<|QW rfl (Q8 Zs) X4 Xp rfl rfl (fun b48=>QA (QE rfl)<|QF<|QC<|QG<|QB ?_)))))
 refine QA (QD rfl)<|QA (QD rfl)<|QH rfl (fun w F hF ⟨⟨⟨⟨⟨⟨⟨⟨hGl,_⟩,_⟩,_⟩,_⟩,_⟩,hs44⟩,hs46⟩,hs48⟩=>UF (a:=(NX b48 [Y9 [49] b44 [1,0],Y9 [49] b46 [0,1]])) (b:=(NX b48 [Y9 [49] b44 [1,0],Y9 [49] b46 [0,1]])) (P:=[([49],[1,0]),([49],[0,1])]) (Q:=[([49],[1,0]),([49],[0,1])]) (R:=[([49],[2,0]),([50],[1,1]),([49],[0,2])]) hF hGl (kj (a:=(NX b48 [Y9 [49] b44 [1,0],Y9 [49] b46 [0,1]])) (KR (ts:=[Y9 [49] b44 [1,0],Y9 [49] b46 [0,1]]) hs48) (PC (J9 (k:=[1,0]) hs44) (Pj (J9 (k:=[0,1]) hs46))) (xS (a:=(NX b48 [Y9 [49] b44 [1,0],Y9 [49] b46 [0,1]])) (KR (ts:=[Y9 [49] b44 [1,0],Y9 [49] b46 [0,1]]) hs48) (PC (J9 (k:=[1,0]) hs44) (Pj (J9 (k:=[0,1]) hs46))))) (gz (My [([49],[1,0]),([49],[0,1])] rfl (by decide) (by decide)) (My [([49],[1,0]),([49],[0,1])] rfl (by decide) (by decide))) rfl rfl (by decide +kernel) (by decide +kernel) (by decide +kernel) (by decide +kernel) (by decide +kernel)) (fun c52=>QA (QD rfl)<|QA (QM rfl rfl)<|QA (QM rfl rfl)<|QA (QE rfl)<|QA (QE rfl)<|QF<|QC<|QG<|QB<|QW rfl (Q8 Qe) Qp VE rfl rfl (fun b56=>QA (Q4 rfl ZM Xp (.cons (vs:=[_]) rfl rfl rfl (.here .nil) (.cons (vs:=[_]) rfl rfl rfl (.skip (.here .nil)) .nil)))<|QW rfl (Q8 Qe) Qp VE rfl rfl (fun b58=>QA (Q4 rfl ZM Xp (.cons (vs:=[_]) rfl rfl rfl (.here .nil) (.cons (vs:=[_]) rfl rfl rfl (.skip (.here .nil)) .nil)))<|QW rfl (Q8 Qe) Qp VE rfl rfl (fun b60=>QA (Q4 rfl ZM Xp (.cons (vs:=[_]) rfl rfl rfl (.here .nil) (.cons (vs:=[_]) rfl rfl rfl (.skip (.here .nil)) .nil)))<|QW rfl (Q8 Zs) X4 Xp rfl rfl (fun b62=>QH rfl (fun w F hF ⟨⟨⟨⟨⟨⟨⟨⟨⟨⟨⟨⟨⟨hGl,_⟩,_⟩,_⟩,_⟩,_⟩,hs44⟩,hs46⟩,hs48⟩,h52⟩,hs56⟩,hs58⟩,hs60⟩,hs62⟩=>N3 (a:=(NX b62 [Y9 [50] b56 [0,2],Y9 [45,51] b58 [1,0],Y9 [49] b60 [0,0]])) (P:=[([50],[0,2]),([45,51],[1,0]),([49],[0,0])]) (R:=[([52],[0,1])]) hF hGl (xS (a:=(NX b62 [Y9 [50] b56 [0,2],Y9 [45,51] b58 [1,0],Y9 [49] b60 [0,0]])) (KR (ts:=[Y9 [50] b56 [0,2],Y9 [45,51] b58 [1,0],Y9 [49] b60 [0,0]]) hs62) (PC (J9 (k:=[0,2]) hs56) (PC (J9 (k:=[1,0]) hs58) (Pj (J9 (k:=[0,0]) hs60))))) (dA (My [([50],[0,2]),([45,51],[1,0]),([49],[0,0])] rfl (by decide) (by decide))) rfl (by decide +kernel) (by decide +kernel) (by decide +kernel) (by decide +kernel) (by decide +kernel)) (fun c63=>QA (QD rfl)<|QA (QM rfl rfl)<|QA (QM rfl rfl)<|QA (QE rfl)<|QA (QE rfl) ?_))))))
 refine QF<|QC<|QG<|QB<|QW rfl (Q8 Qe) Qp VE rfl rfl (fun b67=>QA (Q4 rfl ZM Xp (.cons (vs:=[_]) rfl rfl rfl (.here .nil) (.cons (vs:=[_]) rfl rfl rfl (.skip (.here .nil)) .nil)))<|QW rfl (Q8 Qe) Qp VE rfl rfl (fun b69=>QA (Q4 rfl ZM Xp (.cons (vs:=[_]) rfl rfl rfl (.here .nil) (.cons (vs:=[_]) rfl rfl rfl (.skip (.here .nil)) .nil)))<|QW rfl (Q8 Zs) X4 Xp rfl rfl (fun b71=>QA (Q4 rfl YI Zg (.cons (vs:=[_]) rfl rfl rfl (.here .nil) (.cons (vs:=[_]) rfl rfl rfl (.skip (.here .nil)) .nil)))<|QA (Q4 rfl YI Zg (.cons (vs:=[_]) rfl rfl rfl (.here .nil) (.cons (vs:=[_]) rfl rfl rfl (.skip (.here .nil)) .nil)))<|QW rfl (Q8 TZ) JW Zg rfl rfl (fun b74=>QH rfl (fun w F hF ⟨⟨⟨⟨⟨⟨⟨⟨⟨⟨⟨⟨⟨⟨⟨⟨⟨⟨hGl,_⟩,_⟩,_⟩,_⟩,_⟩,hs44⟩,hs46⟩,hs48⟩,h52⟩,hs56⟩,hs58⟩,hs60⟩,hs62⟩,h63⟩,hs67⟩,hs69⟩,hs71⟩,hs74⟩=>Pe (a:=(NX b71 [Y9 [49] b67 [0,2],Y9 [45,49] b69 [0,1]])) (ss:=[([48],[57]),([48],[49])]) (P:=[([49],[0,2]),([45,49],[0,1])]) (lo:=[45,49]) (hi:=[49]) hF hGl (KR (ts:=[Y9 [49] b67 [0,2],Y9 [45,49] b69 [0,1]]) hs71) (PC (J9 (k:=[0,2]) hs67) (Pj (J9 (k:=[0,1]) hs69))) (My [([49],[0,2]),([45,49],[0,1])] rfl (by decide) (by decide)) (JB.of (n:=2) (sz:=2) (cs:=[([48],[57]),([48],[49])].flatMap TX) hs74 rfl) rfl (by decide) (by decide) rfl (by decide +kernel)) (fun _=>QA (QD rfl)<|QA (QM rfl rfl)<|QA (QM rfl rfl)<|QZ Zg (fun b16=>QS (vs:=[_,_]) rfl rfl rfl JW rfl .here (.here (.here .nil)) ⟨rfl,rfl,trivial⟩<|QA (QE rfl)<|QF<|QC<|QG<|QB<|QW rfl (Q8 Qe) Qp VE rfl rfl (fun b79=>QA (Q4 rfl ZM Xp (.cons (vs:=[_]) rfl rfl rfl (.here .nil) (.cons (vs:=[_]) rfl rfl rfl (.skip (.here .nil)) .nil))) ?_)))))))
 refine QW rfl (Q8 Qe) Qp VE rfl rfl (fun b81=>QA (Q4 rfl ZM Xp (.cons (vs:=[_]) rfl rfl rfl (.here .nil) (.cons (vs:=[_]) rfl rfl rfl (.skip (.here .nil)) .nil)))<|QW rfl (Q8 Zs) X4 Xp rfl rfl (fun b83=>QW rfl (Q8 Qe) Qp VE rfl rfl (fun b84=>QA (Q4 rfl ZM Xp (.cons (vs:=[_]) rfl rfl rfl (.here .nil) (.cons (vs:=[_]) rfl rfl rfl (.skip (.here .nil)) .nil)))<|QW rfl (Q8 Zs) X4 Xp rfl rfl (fun b86=>QW rfl (Q8 Qe) Qp VE rfl rfl (fun b87=>QA (Q4 rfl ZM Xp (.cons (vs:=[_]) rfl rfl rfl (.here .nil) (.cons (vs:=[_]) rfl rfl rfl (.skip (.here .nil)) .nil)))<|QW rfl (Q8 Qe) Qp VE rfl rfl (fun b89=>QA (Q4 rfl ZM Xp (.cons (vs:=[_]) rfl rfl rfl (.here .nil) (.cons (vs:=[_]) rfl rfl rfl (.skip (.here .nil)) .nil)))<|QW rfl (Q8 Zs) X4 Xp rfl rfl (fun b91=>QW rfl (Q8 EI) Ms zU rfl rfl (fun b92=>QH rfl (fun w F hF ⟨⟨⟨⟨⟨⟨⟨⟨⟨⟨⟨⟨⟨⟨⟨⟨⟨⟨⟨⟨⟨⟨⟨⟨⟨⟨⟨⟨hGl,_⟩,_⟩,_⟩,_⟩,_⟩,hs44⟩,hs46⟩,hs48⟩,h52⟩,hs56⟩,hs58⟩,hs60⟩,hs62⟩,h63⟩,hs67⟩,hs69⟩,hs71⟩,hs74⟩,_⟩,hs79⟩,hs81⟩,hs83⟩,hs84⟩,hs86⟩,hs87⟩,hs89⟩,hs91⟩,hs92⟩=>U4 (a:=(NX b83 [Y9 [49] b79 [0,2],Y9 [49] b81 [1,0]])) (ls:=[(NX b86 [Y9 [49] b84 [0]]),(NX b91 [Y9 [49] b87 [1],Y9 [45,49] b89 [0]])]) (P:=[([49],[0,2]),([49],[1,0])]) (Ws:=[[([49],[0])],[([49],[1]),([45,49],[0])]]) (R:=[([49],[2]),([45,50],[1]),([50],[0])]) hF hGl (xS (a:=(NX b83 [Y9 [49] b79 [0,2],Y9 [49] b81 [1,0]])) (KR (ts:=[Y9 [49] b79 [0,2],Y9 [49] b81 [1,0]]) hs83) (PC (J9 (k:=[0,2]) hs79) (Pj (J9 (k:=[1,0]) hs81)))) (My [([49],[0,2]),([49],[1,0])] rfl (by decide) (by decide)) (JB.of (n:=2) (sz:=1) (cs:=[(NX b86 [Y9 [49] b84 [0]]),(NX b91 [Y9 [49] b87 [1],Y9 [45,49] b89 [0]])].map fun e=>e.1.v) hs92 rfl) (kj (a:=(NX b86 [Y9 [49] b84 [0]])) (KR (ts:=[Y9 [49] b84 [0]]) hs86) (Pj (J9 (k:=[0]) hs84)) (xS (a:=(NX b91 [Y9 [49] b87 [1],Y9 [45,49] b89 [0]])) (KR (ts:=[Y9 [49] b87 [1],Y9 [45,49] b89 [0]]) hs91) (PC (J9 (k:=[1]) hs87) (Pj (J9 (k:=[0]) hs89))))) rfl (gz (My [([49],[0])] rfl (by decide) (by decide)) (My [([49],[1]),([45,49],[0])] rfl (by decide) (by decide))) rfl rfl (by decide) (by decide) (by decide +kernel) (by decide) (by decide +kernel) yo (by decide +kernel) (by decide +kernel)) (fun c93=>QA (QD rfl)<|QA (QM rfl rfl)<|QA (QM rfl rfl)<|QA (QE rfl)<|QA (QE rfl)<|QF<|QC<|QG<|QG<|QB<|QA (QD rfl)<|QA (QD rfl) ?_)))))))))
 refine QA (Qu rfl rfl (by omega))<|QA (QD rfl)<|QA (Qu rfl rfl (by omega))<|QA (QD rfl)<|QA (Qu rfl rfl (by omega))<|QA (QD rfl)<|QA (Qu rfl rfl (by omega))<|QA (QD rfl)<|QA (Qu rfl rfl (by omega))<|QA (QD rfl)<|QA (Qu rfl rfl (by omega))<|QA (QD rfl)<|QA (Qu rfl rfl (by omega))<|QA (QD rfl)<|QA (Qu rfl rfl (by omega))<|QA (QU (v:=.bool false) rfl rfl rfl)<|QA (QD rfl)<|QL rfl rfl<|QA (QD rfl)<|QL rfl rfl<|QA (QU (v:=.bool false) rfl rfl (kY _))<|QA (Qh rfl rfl rfl)<|QA (QD rfl)<|QL rfl rfl<|QA (QD rfl) ?_
 refine QL rfl rfl<|QA (QU (v:=.bool false) rfl rfl (kY _))<|QA (Qh rfl rfl rfl)<|QA (QD rfl)<|QL rfl rfl<|QA (QJ (vs:=[_,_]) rfl JW (.there (.there (.there .here))) (.here (.here .nil)) rfl)<|QL rfl rfl<|QA (Q4 rfl YI Zg (.cons (vs:=[_]) rfl rfl rfl (.here .nil) (.cons (vs:=[_]) rfl rfl rfl (.skip (.here .nil)) .nil)))<|QL rfl rfl<|QA (Gp rfl rfl rfl rfl)<|QA (Qh rfl rfl rfl)<|QA (QD rfl)<|QL rfl rfl<|QA (QJ (vs:=[_,_]) rfl JW (.there (.there .here)) (.here (.here .nil)) rfl)<|QL rfl rfl<|QA (Q4 rfl YI Zg (.cons (vs:=[_]) rfl rfl rfl (.here .nil) (.cons (vs:=[_]) rfl rfl rfl (.skip (.here .nil)) .nil)))<|QL rfl rfl<|QA (Gp rfl rfl rfl rfl)<|QA (Qh rfl rfl rfl)<|QA (QD rfl)<|QL rfl rfl<|QA (QJ (vs:=[_,_]) rfl JW (.there .here) (.here (.here .nil)) rfl)<|QL rfl rfl<|QA (Q4 rfl YI Zg (.cons (vs:=[_]) rfl rfl rfl (.here .nil) (.cons (vs:=[_]) rfl rfl rfl (.skip (.here .nil)) .nil)))<|QL rfl rfl ?_
 refine QA (Gp rfl rfl rfl rfl)<|QA (Qh rfl rfl rfl)<|QA (QD rfl)<|QL rfl rfl<|QA (QJ (vs:=[_,_]) rfl JW .here (.here (.here .nil)) rfl)<|QL rfl rfl<|QA (Q4 rfl YI Zg (.cons (vs:=[_]) rfl rfl rfl (.here .nil) (.cons (vs:=[_]) rfl rfl rfl (.skip (.here .nil)) .nil)))<|QL rfl rfl<|QA (Gp rfl rfl rfl rfl)<|QA (Qh rfl rfl rfl)<|QF<|QC<|ZE rfl<|QP<|QC<|QG<|QG<|QB<|QA (QD rfl)<|QW rfl (Q8 Qe) Qp VE rfl rfl (fun b143=>QA (Q4 rfl ZM Xp (.cons (vs:=[_]) rfl rfl rfl (.here .nil) (.cons (vs:=[_]) rfl rfl rfl (.skip (.here .nil)) .nil)))<|QW rfl (Q8 Qe) Qp VE rfl rfl (fun b145=>QA (Q4 rfl ZM Xp (.cons (vs:=[_]) rfl rfl rfl (.here .nil) (.cons (vs:=[_]) rfl rfl rfl (.skip (.here .nil)) .nil)))<|QW rfl (Q8 Qe) Qp VE rfl rfl (fun b147=>QA (Q4 rfl ZM Xp (.cons (vs:=[_]) rfl rfl rfl (.here .nil) (.cons (vs:=[_]) rfl rfl rfl (.skip (.here .nil)) .nil))) ?_)))
 refine QW rfl (Q8 Zs) X4 Xp rfl rfl (fun b149=>QH rfl (fun w F hF ⟨⟨⟨⟨⟨⟨⟨⟨⟨⟨⟨⟨⟨⟨⟨⟨⟨⟨⟨⟨⟨⟨⟨⟨⟨⟨⟨⟨⟨⟨⟨⟨⟨hGl,_⟩,_⟩,_⟩,_⟩,_⟩,hs44⟩,hs46⟩,hs48⟩,h52⟩,hs56⟩,hs58⟩,hs60⟩,hs62⟩,h63⟩,hs67⟩,hs69⟩,hs71⟩,hs74⟩,_⟩,hs79⟩,hs81⟩,hs83⟩,hs84⟩,hs86⟩,hs87⟩,hs89⟩,hs91⟩,hs92⟩,h93⟩,hs143⟩,hs145⟩,hs147⟩,hs149⟩=>M7 (a:=c52) (b:=(NX b149 [Y9 [49] b143 [2,0],Y9 [50] b145 [1,1],Y9 [49] b147 [0,2]])) (P:=[([49],[2,0]),([50],[1,1]),([49],[0,2])]) hF h52 (KR (ts:=[Y9 [49] b143 [2,0],Y9 [50] b145 [1,1],Y9 [49] b147 [0,2]]) hs149) (PC (J9 (k:=[2,0]) hs143) (PC (J9 (k:=[1,1]) hs145) (Pj (J9 (k:=[0,2]) hs147)))) rfl rfl (by decide) (by decide)) (fun _=>QA (YV rfl)<|QA (QD rfl)<|QL rfl rfl<|QA (QD rfl)<|QL rfl rfl<|QW rfl (Q8 Qe) Qp VE rfl rfl (fun b154=>QL rfl rfl<|QA (Q4 rfl ZM Xp (.cons (vs:=[_]) rfl rfl rfl (.here .nil) (.cons (vs:=[_]) rfl rfl rfl (.skip (.here .nil)) .nil)))<|QL rfl rfl<|QW rfl (Q8 Zs) X4 Xp rfl rfl (fun b156=>QL rfl rfl<|QH rfl (fun w F hF ⟨⟨⟨⟨⟨⟨⟨⟨⟨⟨⟨⟨⟨⟨⟨⟨⟨⟨⟨⟨⟨⟨⟨⟨⟨⟨⟨⟨⟨⟨⟨⟨⟨⟨⟨⟨hGl,_⟩,_⟩,_⟩,_⟩,_⟩,hs44⟩,hs46⟩,hs48⟩,h52⟩,hs56⟩,hs58⟩,hs60⟩,hs62⟩,h63⟩,hs67⟩,hs69⟩,hs71⟩,hs74⟩,_⟩,hs79⟩,hs81⟩,hs83⟩,hs84⟩,hs86⟩,hs87⟩,hs89⟩,hs91⟩,hs92⟩,h93⟩,hs143⟩,hs145⟩,hs147⟩,hs149⟩,_⟩,hs154⟩,hs156⟩=>M7 (a:=c63) (b:=(NX b156 [Y9 [52] b154 [0,1]])) (P:=[([52],[0,1])]) hF h63 (KR (ts:=[Y9 [52] b154 [0,1]]) hs156) (Pj (J9 (k:=[0,1]) hs154)) rfl rfl (by decide) (by decide)) (fun _=>QL rfl rfl<|QA (YV rfl)<|QA (Qh rfl rfl rfl)<|QF<|QC<|ZE rfl<|QP<|QC<|QG<|QB<|QA (QD rfl) ?_)))))
 refine QW rfl (Q8 Qe) Qp VE rfl rfl (fun b161=>QA (Q4 rfl ZM Xp (.cons (vs:=[_]) rfl rfl rfl (.here .nil) (.cons (vs:=[_]) rfl rfl rfl (.skip (.here .nil)) .nil)))<|QW rfl (Q8 Qe) Qp VE rfl rfl (fun b163=>QA (Q4 rfl ZM Xp (.cons (vs:=[_]) rfl rfl rfl (.here .nil) (.cons (vs:=[_]) rfl rfl rfl (.skip (.here .nil)) .nil)))<|QW rfl (Q8 Qe) Qp VE rfl rfl (fun b165=>QA (Q4 rfl ZM Xp (.cons (vs:=[_]) rfl rfl rfl (.here .nil) (.cons (vs:=[_]) rfl rfl rfl (.skip (.here .nil)) .nil)))<|QW rfl (Q8 Zs) X4 Xp rfl rfl (fun b167=>QH rfl (fun w F hF ⟨⟨⟨⟨⟨⟨⟨⟨⟨⟨⟨⟨⟨⟨⟨⟨⟨⟨⟨⟨⟨⟨⟨⟨⟨⟨⟨⟨⟨⟨⟨⟨⟨⟨⟨⟨⟨⟨⟨⟨⟨hGl,_⟩,_⟩,_⟩,_⟩,_⟩,hs44⟩,hs46⟩,hs48⟩,h52⟩,hs56⟩,hs58⟩,hs60⟩,hs62⟩,h63⟩,hs67⟩,hs69⟩,hs71⟩,hs74⟩,_⟩,hs79⟩,hs81⟩,hs83⟩,hs84⟩,hs86⟩,hs87⟩,hs89⟩,hs91⟩,hs92⟩,h93⟩,hs143⟩,hs145⟩,hs147⟩,hs149⟩,_⟩,hs154⟩,hs156⟩,_⟩,hs161⟩,hs163⟩,hs165⟩,hs167⟩=>M7 (a:=c93) (b:=(NX b167 [Y9 [49] b161 [2],Y9 [45,50] b163 [1],Y9 [50] b165 [0]])) (P:=[([49],[2]),([45,50],[1]),([50],[0])]) hF h93 (KR (ts:=[Y9 [49] b161 [2],Y9 [45,50] b163 [1],Y9 [50] b165 [0]]) hs167) (PC (J9 (k:=[2]) hs161) (PC (J9 (k:=[1]) hs163) (Pj (J9 (k:=[0]) hs165)))) rfl rfl (by decide) (by decide)) (fun _=>QA (QD rfl)<|QL rfl rfl<|QH rfl (fun w F hF ⟨⟨⟨⟨⟨⟨⟨⟨⟨⟨⟨⟨⟨⟨⟨⟨⟨⟨⟨⟨⟨⟨⟨⟨⟨⟨⟨⟨⟨⟨⟨⟨⟨⟨⟨⟨⟨⟨⟨⟨⟨⟨hGl,_⟩,_⟩,_⟩,_⟩,_⟩,hs44⟩,hs46⟩,hs48⟩,h52⟩,hs56⟩,hs58⟩,hs60⟩,hs62⟩,h63⟩,hs67⟩,hs69⟩,hs71⟩,hs74⟩,_⟩,hs79⟩,hs81⟩,hs83⟩,hs84⟩,hs86⟩,hs87⟩,hs89⟩,hs91⟩,hs92⟩,h93⟩,hs143⟩,hs145⟩,hs147⟩,hs149⟩,_⟩,hs154⟩,hs156⟩,_⟩,hs161⟩,hs163⟩,hs165⟩,hs167⟩,_⟩=>gJ hF) (fun _=>QA (Qj rfl rfl rfl)<|QA (QD rfl)<|QL rfl rfl<|QH rfl (fun w F hF ⟨⟨⟨⟨⟨⟨⟨⟨⟨⟨⟨⟨⟨⟨⟨⟨⟨⟨⟨⟨⟨⟨⟨⟨⟨⟨⟨⟨⟨⟨⟨⟨⟨⟨⟨⟨⟨⟨⟨⟨⟨⟨⟨hGl,_⟩,_⟩,_⟩,_⟩,_⟩,hs44⟩,hs46⟩,hs48⟩,h52⟩,hs56⟩,hs58⟩,hs60⟩,hs62⟩,h63⟩,hs67⟩,hs69⟩,hs71⟩,hs74⟩,_⟩,hs79⟩,hs81⟩,hs83⟩,hs84⟩,hs86⟩,hs87⟩,hs89⟩,hs91⟩,hs92⟩,h93⟩,hs143⟩,hs145⟩,hs147⟩,hs149⟩,_⟩,hs154⟩,hs156⟩,_⟩,hs161⟩,hs163⟩,hs165⟩,hs167⟩,_⟩,_⟩=>gI hF) (fun _=>QL rfl rfl<|QA (YV rfl)<|QA (Qj rfl rfl rfl)<|QA (QE rfl)<|QF<|QC<|QR ?_)))))))
 exact QN (()) rfl (.tmp rfl .nil) (rfl) (fun F ⟨⟨⟨⟨⟨⟨⟨⟨⟨⟨⟨⟨⟨⟨⟨⟨⟨⟨⟨⟨⟨⟨⟨⟨⟨⟨⟨⟨⟨⟨⟨⟨⟨⟨⟨⟨⟨⟨⟨⟨⟨⟨⟨⟨hGl,_⟩,_⟩,_⟩,_⟩,_⟩,hs44⟩,hs46⟩,hs48⟩,h52⟩,hs56⟩,hs58⟩,hs60⟩,hs62⟩,h63⟩,hs67⟩,hs69⟩,hs71⟩,hs74⟩,_⟩,hs79⟩,hs81⟩,hs83⟩,hs84⟩,hs86⟩,hs87⟩,hs89⟩,hs91⟩,hs92⟩,h93⟩,hs143⟩,hs145⟩,hs147⟩,hs149⟩,_⟩,hs154⟩,hs156⟩,_⟩,hs161⟩,hs163⟩,hs165⟩,hs167⟩,_⟩,_⟩,_⟩=>trivial)
end
section
open Go.RowKit Ig
theorem qW (z:Int):U9 (Xc z)=Lib.decDigits z.natAbs:=by
 have h:=Tb ((z:Int):Rat)
 rw [Sg,show((z:Int):Rat).num=z from by simp] at h
 unfold U9
 rw [h]
 unfold Ep
 by_cases h0:z<0
 ·rw [if_pos h0,if_pos (by decide),Zj h0];rfl
 ·rw [if_neg h0,Jh (by omega),if_neg (by split<;>decide)]
theorem Dv (x:Rat):YN (Qy x)=if Xd x=true then 4 else 0:=by
 have hn:decide (600<(U9 (numOf (Qy x))).length)=Hh x.num:=by
  have e:numOf (Qy x)=Xc x.num:=by
   unfold numOf
   by_cases h:x.den=1
   ·obtain ⟨h1,h2⟩:=Hu h
    rw [h2,List.take_length,h1]
   ·exact(Kl h).2.2.1
  rw [e,qW]
  unfold Hh
  exact decide_eq_decide.2 (SY _)
 have hd:decide (600<(EZ (Qy x)).length)=Hh x.den:=by
  unfold EZ Hh
  by_cases h:x.den=1
  ·rw [if_pos ((Hv x).2 h),h]
   have h1:¬ lim≤(((1:Nat):Int)).natAbs:=by
    exact Nat.not_le.2 (Nat.lt_of_le_of_lt Nat.one_le_two_pow IG)
   rw [decide_eq_false h1]
   simp
  ·rw [if_neg fun e=>h ((Hv x).1 e),(Kl h).2.2.2]
   exact decide_eq_decide.2 (SY _)
 unfold YN Xd
 rw [hn,hd]
theorem Cc (x:Rat):Dm (GQ x).1 (GQ x).2 0 (Qy x)=true:=by
 unfold Dm GQ
 rw [if_pos rfl,Dv]
 cases Xd x<;>simp
theorem je {d:Int} (h:d≠0) (w:List UInt8):Dm [] d d w=true:=by
 unfold Dm;rw [if_neg h];simp
theorem TW (x:Rat×Rat):Hs (Vx x).1 (Vx x).2 0 (Qy x.1,Qy x.2)=true:=by
 unfold Hs Vx YC
 dsimp only
 rw [if_pos rfl,Dv,Dv]
 cases Xd x.1<;>cases Xd x.2<;>simp [Qm]
theorem Ft {d:Int} (h:d≠0) (w:List UInt8×List UInt8):Hs ([],[]) d d w=true:=by
 unfold Hs;rw [if_neg h];simp
theorem Np (i:Nat):J5 i*((2^i:Int):Rat)=1:=by
 unfold J5
 induction i with
 |zero=>decide +kernel
 |succ i ih =>
  have e:((2^(i+1):Int):Rat)=((2^i:Int):Rat)*2:=by rw [Int.pow_succ,Rat.intCast_mul];rfl
  rw [Rat.pow_succ,e]
  have h2:Rat.divInt 1 2*2=1:=by decide +kernel
  rw [show Rat.divInt 1 2^i*Rat.divInt 1 2*(((2^i:Int):Rat)*2)=(Rat.divInt 1 2^i*((2^i:Int):Rat))*(Rat.divInt 1 2*2) from by
   rw [Rat.mul_assoc,Rat.mul_assoc];congr 1;rw [← Rat.mul_assoc,Rat.mul_comm (Rat.divInt 1 2),Rat.mul_assoc],ih,h2,Rat.mul_one]
theorem IN (i:Nat):J5 i≠0:=fun e=>Gu i (by rw [e];rfl)
theorem DD (x:Rat) (i:Nat):x / J5 i=x*((2^i:Int):Rat):=by
 have h:=Np i
 rw [Rat.div_def]
 congr 1
 have h1:=Rat.inv_mul_cancel (J5 i) (IN i)
 calc (J5 i)⁻¹=(J5 i)⁻¹*(J5 i*((2^i:Int):Rat)):=by rw [h,Rat.mul_one]
  _=((J5 i)⁻¹*J5 i)*((2^i:Int):Rat):=by rw [Rat.mul_assoc]
  _=_:=by rw [h1,Rat.one_mul]
theorem Nk (n:Int) (i:Nat):Rat.divInt n (2^i)=(n:Rat)*J5 i:=by
 have h:=DD (((n:Int):Rat)*J5 i) i
 have hne:=IN i
 rw [Rat.divInt_eq_div]
 have h2:((2^i:Int):Rat)≠0:=fun e=>by have:=Np i;rw [e,Rat.mul_zero] at this;exact absurd this (by decide)
 have h3:(J5 i)=(((2^i:Int):Rat))⁻¹:=by
  have h1:=Rat.mul_inv_cancel (((2^i:Int):Rat)) h2
  calc J5 i=J5 i*(((2^i:Int):Rat)*(((2^i:Int):Rat))⁻¹):=by rw [h1,Rat.mul_one]
   _=(J5 i*((2^i:Int):Rat))*(((2^i:Int):Rat))⁻¹:=by rw [Rat.mul_assoc]
   _=_:=by rw [Np,Rat.one_mul]
 rw [h3,Rat.div_def]
theorem jh (r:Rat) (b:Int):W4 r b=(((r / J5 b.toNat+Rat.divInt 1 2).floor:Int):Rat)*J5 b.toNat:=by
 unfold W4 two
 rw [Nk,DD]
theorem SK (r:Rat×Rat) (b:Int):T6 r b=(XP r.1 b.toNat,-XP (-r.2) b.toNat):=by
 unfold T6 two XP
 rw [Nk,Nk,DD,DD,Rat.intCast_neg,Rat.neg_mul,Rat.neg_mul]
end
section
open Go.RowKit Ig
theorem j7 {w:World} {F:Gs} {lo hi:List UInt8} {b:Int} (hF:Fits F w) (hGl:JF F):QV Tryz.prog 3 [.agg #[tx lo,tx hi],.int .i64 b] w F (.bool true):=by
 refine QT.intro (G:=fun F=>JF F) Tryz.func3 rfl (by rfl) rfl rfl hF (fun F' hF'=>hGl.le hF')<|QG<|QB<|Qz rfl (vs:=[_,_]) rfl (fun b2=>QA (QE rfl)<|QF<|QC<|QG<|QG<|QB<|QH rfl (fun w F hF hGl=>S2 hF hGl) (fun _=>QA (YV rfl)<|QA (QD rfl)<|QL rfl rfl<|QA (QI rfl Zc JC)<|QL rfl rfl<|QA (Qi rfl JC .here (.here .nil))<|QL rfl rfl<|QA (Jq rfl WE)<|QL rfl rfl<|QA (QU rfl rfl rfl)<|QA (Qh rfl rfl rfl)<|QA (QD rfl) ?_))
 refine Qk (t:=22) rfl (fun hb22=>?_) (fun hb22=>?_)
 ·
  refine QO rfl rfl rfl<|QO rfl rfl rfl<|QO rfl rfl rfl<|QO rfl rfl rfl<|QA (Qj rfl rfl rfl)<|QF<|QC<|VC rfl<|QG<|QB<|QH rfl (fun w F hF ⟨hGl,_⟩=>S2 hF hGl) (fun _=>QA (QE rfl)<|QF<|QC<|QR ?_)
  exact QN (()) rfl (.tmp rfl .nil) (rfl) (fun F ⟨⟨hGl,_⟩,_⟩=>trivial)
 ·
  refine QL rfl rfl<|QA (QI rfl YO JC)<|QL rfl rfl<|QA (Qi rfl JC .here (.skip (.here .nil)))<|QL rfl rfl<|QA (Jq rfl WE)<|QL rfl rfl<|QA (QU rfl rfl rfl)<|QA (Qh rfl rfl rfl)<|QF<|QC ?_
  refine QQ rfl (fun hc=>?_) (fun hc=>?_)
  ·
   refine QG<|QB<|QH rfl (fun w F hF ⟨hGl,_⟩=>S2 hF hGl) (fun _=>QA (QE rfl)<|QF<|QC<|QR ?_)
   exact QN (()) rfl (.tmp rfl .nil) (rfl) (fun F ⟨⟨hGl,_⟩,_⟩=>trivial)
  ·
   have hl60:lo.length≤60∧hi.length≤60:=by simp_all;omega
   have hl:lo.length≤1000000∧hi.length≤1000000:=⟨by omega,by omega⟩
   refine QP<|QC<|QG<|QB<|QA (QI rfl Zc JC)<|QA (Qi rfl JC .here (.here .nil))<|QA (QD rfl)<|QH rfl (fun w F hF ⟨hGl,_⟩=>RI hF hGl (hl.1)) (fun _=>QA (QD rfl)<|QA (QM rfl rfl)<|QA (QM rfl rfl)<|QA (QE rfl)<|QA (QE rfl)<|QF<|QC<|QG<|QB<|QA (QJ (vs:=[_,_]) rfl JW .here (.here (.here .nil)) rfl)<|QA (QD rfl)<|QH rfl (fun w F hF ⟨⟨hGl,_⟩,_⟩=>RB hF hGl (hl)) (fun _=>QA (QD rfl)<|QA (QM rfl rfl)<|QA (QM rfl rfl)<|QZ Zg (fun b7=>QS (vs:=[_,_]) rfl rfl rfl JW rfl .here (.here (.here .nil)) ⟨rfl,rfl,trivial⟩ ?_)))
   refine QA (QE rfl)<|QF<|QC ?_
   refine Ze [(1,_),(2,_),(5,_),(6,_),(7,_),(8,_)] [(9,.int .i64 (YP b))] ⟨rfl,rfl,rfl,rfl,rfl,rfl,trivial⟩ ?_ ?_
   ·
    refine QB<|QA (QD rfl)<|QA (QU rfl rfl rfl)<|QA (QD rfl) ?_
    refine Qk (t:=44) rfl (fun hb44=>?_) (fun hb44=>?_)
    ·
     refine QO rfl rfl rfl<|QO rfl rfl rfl<|QA (Qj rfl rfl rfl)<|QH rfl (fun w F hF ⟨⟨⟨hGl,_⟩,_⟩,_⟩=>RR hF ) (fun _=>QA (QE rfl)<|QF ?_)
     exact J2 ⟨rfl,rfl,rfl,rfl,rfl,rfl,(congrArg (fun z:Int=>some (Value.int .i64 z)) (by unfold YP;first | (simp_all;done) | (simp_all;split<;>split<;>omega))),trivial⟩ (List.Sublist.refl _) (fun _ h=>h.1)
    ·
     refine QL rfl rfl<|QA (QD rfl)<|QL rfl rfl<|QA (QU rfl rfl rfl)<|QA (Qh rfl rfl rfl)<|QH rfl (fun w F hF ⟨⟨⟨hGl,_⟩,_⟩,_⟩=>RR hF ) (fun _=>QA (QE rfl)<|QF ?_)
     exact J2 ⟨rfl,rfl,rfl,rfl,rfl,rfl,(congrArg (fun z:Int=>some (Value.int .i64 z)) (by unfold YP;first | (simp_all;done) | (simp_all;split<;>split<;>omega))),trivial⟩ (List.Sublist.refl _) (fun _ h=>h.1)
   ·
    simp only [List.cons_append,List.nil_append]
    refine QG<|JG (List.Sublist.refl _) mixed (by kernel_rfl)<|QK (QI rfl Zc JC)<|QK (Qi rfl JC (.there .here) (.here .nil))<|QY rfl (fun w F hF ⟨⟨⟨hGl,_⟩,_⟩,_⟩=>Bh hF (hl.1)) (fun _=>QK (QJ (vs:=[_,_]) rfl JW (.there .here) (.here (.here .nil)) rfl)<|QY rfl (fun w F hF ⟨⟨⟨⟨hGl,_⟩,_⟩,_⟩,_⟩=>R7 hF (hl)) (fun _=>QK (QE rfl)<|QK (QE rfl)<|Q2<|QC<|QG<|QG<|QB<|QA (QJ (vs:=[_,_]) rfl JW (.there .here) (.here (.here .nil)) rfl)<|QH rfl (fun w F hF ⟨⟨⟨⟨⟨hGl,_⟩,_⟩,_⟩,_⟩,_⟩=>Yr hF hGl (hl)) (fun _=>QA (QD rfl)<|QA (QU rfl rfl rfl)<|QF<|QC ?_)))
    refine QQ rfl (fun hc=>?_) (fun hc=>?_)
    ·exact absurd hc (by simp)
    ·
     refine QP<|QC<|QG<|QB<|QA (QD rfl)<|QA (QD rfl)<|QW rfl (Q8 Qe) Qp VE rfl rfl (fun b60=>QH rfl (fun w F hF ⟨⟨⟨⟨⟨⟨⟨hGl,_⟩,_⟩,_⟩,_⟩,_⟩,_⟩,hs60⟩=>Ng hF (JB.of (n:=2) (sz:=1) (cs:=List.map Q3 [Jg lo,YP b]) hs60 rfl) (by decide)) (fun _=>QA (QE rfl)<|QF<|QC<|QG<|QB<|QA (QE rfl)<|QF<|QC<|QG<|QG<|QB<|QA (QD rfl)<|QA (QU rfl rfl rfl)<|QF<|QC ?_))
     refine QQ rfl (fun hc=>?_) (fun hc=>?_)
     ·
      have h63:Qm [Jg lo,YP b]=0:=by simpa using hc
      have hck:=ZG h63
      have hb3:=DO hck.2
      have hlo:=(Xs hck.1).1
      have hz0:=J4 hck.1
      have hnearG:∀ w F,Fits F w→QV Tryz.prog 24 [tx lo,.int .i64 b] w F (tx (Qy (W4 (JM lo) b))):=fun w F hF=>by
       have h:=Ae (x:=JM lo) (b:=b) hF (Nat.le_trans hz0 (by decide)) hb3.1 hb3.2
       rw [← hlo,← jh] at h;exact h
      have hnumG:∀ w F,Fits F w→QV Tryz.prog 25 [tx (Y2 lo b).1,.int .i64 (Y2 lo b).2,.int .i64 (Qm [Jg lo,YP b]),tx (Qy (W4 (JM lo) b))] w F (.bool true):=fun w F hF=>by
       have h:=RO (a:=(Y2 lo b).1) (b:=Qy (W4 (JM lo) b)) (e:=(Y2 lo b).2) (d:=Qm [Jg lo,YP b]) hF (by have h1:=YB (W4 (JM lo) b);have h2:=BQ (ID hz0 hb3.2) hb3.2;unfold W4 at *;omega)
       rw [h63,show Y2 lo b=GQ (W4 (JM lo) b) from by unfold Y2;rw [if_pos h63],Cc] at h
       rw [h63,show Y2 lo b=GQ (W4 (JM lo) b) from by unfold Y2;rw [if_pos h63]]
       exact h
      refine QB<|QA (QI rfl Zc JC)<|QA (Qi rfl JC (.there .here) (.here .nil))<|QA (QD rfl)<|QH rfl (fun w F hF ⟨⟨⟨⟨⟨⟨⟨⟨hGl,_⟩,_⟩,_⟩,_⟩,_⟩,_⟩,hs60⟩,_⟩=>hnearG w F hF) (fun _=>QA (QE rfl)<|QF<|QC<|QG<|QG<|QB<|QA (QD rfl)<|QA (QD rfl)<|QA (QD rfl)<|QA (QD rfl)<|QH rfl (fun w F hF ⟨⟨⟨⟨⟨⟨⟨⟨⟨hGl,_⟩,_⟩,_⟩,_⟩,_⟩,_⟩,hs60⟩,_⟩,_⟩=>hnumG w F hF) (fun _=>QA (YV rfl)<|QF<|QC<|ZE rfl<|QP<|QC<|QG<|QB<|QA (QD rfl) ?_))
      refine QA (QD rfl)<|QW rfl (Q8 Qe) Qp VE rfl rfl (fun b76=>QH rfl (fun w F hF ⟨⟨⟨⟨⟨⟨⟨⟨⟨⟨⟨hGl,_⟩,_⟩,_⟩,_⟩,_⟩,_⟩,hs60⟩,_⟩,_⟩,_⟩,hs76⟩=>Ng hF (JB.of (n:=2) (sz:=1) (cs:=List.map Q3 [Jl lo hi,YP b]) hs76 rfl) (by decide)) (fun _=>QA (QE rfl)<|QF<|QC<|QG<|QG<|QB<|QA (QD rfl)<|QA (QU rfl rfl rfl)<|QF<|QC ?_))
      refine QQ rfl (fun hc=>?_) (fun hc=>?_)
      ·
       have h79:¬ Qm [Jl lo hi,YP b]=0:=by simpa using hc
       have hspnB:∀ w F,Fits F w→QV Tryz.prog 26 [.agg #[tx (YA lo hi b).1.1,tx (YA lo hi b).1.2],.int .i64 (YA lo hi b).2,.int .i64 (Qm [Jl lo hi,YP b]),.agg #[tx [],tx []]] w F (.bool true):=fun w F hF=>by
        have h:=MG (a:=(YA lo hi b).1) (b:=([],[])) (e:=(YA lo hi b).2) (d:=Qm [Jl lo hi,YP b]) hF ⟨Nat.zero_le _,Nat.zero_le _⟩
        have e:YA lo hi b=(([],[]),Qm [Jl lo hi,YP b]):=by unfold YA;rw [if_neg h79]
        rw [e,Ft h79] at h
        rw [e]
        exact h
       refine QG<|QB<|QA (QJ (vs:=[_,_]) rfl JW .here (.here (.here .nil)) rfl)<|QA (QD rfl)<|QA (QD rfl)<|QA (Q4 rfl YI Zg .nil)<|QH rfl (fun w F hF ⟨⟨⟨⟨⟨⟨⟨⟨⟨⟨⟨⟨hGl,_⟩,_⟩,_⟩,_⟩,_⟩,_⟩,hs60⟩,_⟩,_⟩,_⟩,hs76⟩,_⟩=>hspnB w F hF) (fun _=>QA (QE rfl)<|QF<|QC<|QR ?_)
       exact QN (()) rfl (.tmp rfl .nil) (rfl) (fun F ⟨⟨⟨⟨⟨⟨⟨⟨⟨⟨⟨⟨⟨hGl,_⟩,_⟩,_⟩,_⟩,_⟩,_⟩,hs60⟩,_⟩,_⟩,_⟩,hs76⟩,_⟩,_⟩=>trivial)
      ·
       have h79:Qm [Jl lo hi,YP b]=0:=by simpa using hc
       have hck2:=ZG h79
       have hb3:=DO hck2.2
       have hcs:=Ys hck2.1
       have hlo:=(Xs hcs.1).1
       have hhi:=(Xs hcs.2.1).1
       have hz1:=J4 hcs.1
       have hz2:=J4 hcs.2.1
       have hoe:YA lo hi b=Vx (T6 (JM lo,JM hi) b):=by unfold YA;rw [if_pos h79]
       have houtG:∀ w F,Fits F w→QV Tryz.prog 27 [.agg #[tx lo,tx hi],.int .i64 b] w F (.agg #[tx (Qy (XP (JM lo) b.toNat)),tx (Qy (-XP (-(JM hi)) b.toNat))]):=fun w F hF=>by
        have h:=NA (a:=(JM lo,JM hi)) (b:=b) hF ⟨Nat.le_trans hz1 (by decide),Nat.le_trans hz2 (by decide)⟩ hb3.1 hb3.2
        change QV _ _ [.agg #[tx (Qy (JM lo)),tx (Qy (JM hi))],.int .i64 b] w F (.agg #[tx (Qy (XP (JM lo) b.toNat)),tx (Qy (-XP (-(JM hi)) b.toNat))]) at h
        rw [← hlo,← hhi] at h
        exact h
       have hspnG:∀ w F,Fits F w→QV Tryz.prog 26 [.agg #[tx (YA lo hi b).1.1,tx (YA lo hi b).1.2],.int .i64 (YA lo hi b).2,.int .i64 0,.agg #[tx (Qy (XP (JM lo) b.toNat)),tx (Qy (-XP (-(JM hi)) b.toNat))]] w F (.bool true):=fun w F hF=>by
        have h:=MG (a:=(YA lo hi b).1) (b:=(Qy (XP (JM lo) b.toNat),Qy (-XP (-(JM hi)) b.toNat))) (e:=(YA lo hi b).2) (d:=0) hF (by have e:=SK (JM lo,JM hi) b;have h1:=(VG (x:=JM lo) (i:=b.toNat) (Nat.le_trans hz1 (by decide)) (by omega)).2.2.2;have h2:=(VG (x:=-(JM hi)) (i:=b.toNat) (by rw [Ky];exact Nat.le_trans hz2 (by decide)) (by omega)).2.2.2;have h3:=YB (XP (JM lo) b.toNat);have h4:=YB (-XP (-(JM hi)) b.toNat);rw [Ky] at h4;exact⟨by show(Qy _).length≤_;omega,by show(Qy _).length≤_;omega⟩)
        have e:=TW (T6 (JM lo,JM hi) b)
        rw [SK] at e hoe
        rw [hoe] at h ⊢
        rw [e] at h
        exact h
       refine QP<|QC<|QG<|JG (List.Sublist.refl _) mixed (by kernel_rfl)<|QK (QJ (vs:=[_,_]) rfl JW .here (.here (.here .nil)) rfl)<|QK (QD rfl)<|QK (QJ (vs:=[_,_]) rfl JW (.there .here) (.here (.here .nil)) rfl)<|QK (QD rfl)<|QY rfl (fun w F hF ⟨⟨⟨⟨⟨⟨⟨⟨⟨⟨⟨⟨hGl,_⟩,_⟩,_⟩,_⟩,_⟩,_⟩,hs60⟩,_⟩,_⟩,_⟩,hs76⟩,_⟩=>houtG w F hF) (fun _=>QY rfl (fun w F hF ⟨⟨⟨⟨⟨⟨⟨⟨⟨⟨⟨⟨⟨hGl,_⟩,_⟩,_⟩,_⟩,_⟩,_⟩,hs60⟩,_⟩,_⟩,_⟩,hs76⟩,_⟩,_⟩=>hspnG w F hF) (fun _=>QK (QE rfl)<|Q2<|QC<|QR ?_))
       exact QN (()) rfl (.tmp rfl .nil) (rfl) (fun F ⟨⟨⟨⟨⟨⟨⟨⟨⟨⟨⟨⟨⟨⟨hGl,_⟩,_⟩,_⟩,_⟩,_⟩,_⟩,hs60⟩,_⟩,_⟩,_⟩,hs76⟩,_⟩,_⟩,_⟩=>trivial)
     ·
      have h63:¬ Qm [Jg lo,YP b]=0:=by simpa using hc
      have hnumG:∀ w F,Fits F w→QV Tryz.prog 25 [tx (Y2 lo b).1,.int .i64 (Y2 lo b).2,.int .i64 (Qm [Jg lo,YP b]),tx []] w F (.bool true):=fun w F hF=>by
       have h:=RO (a:=(Y2 lo b).1) (b:=[]) (e:=(Y2 lo b).2) (d:=Qm [Jg lo,YP b]) hF (Nat.zero_le _)
       have e:Y2 lo b=([],Qm [Jg lo,YP b]):=by unfold Y2;rw [if_neg h63]
       rw [e,je h63] at h
       rw [e]
       exact h
      refine QP<|QC<|QG<|QG<|QB<|QA (QD rfl)<|QA (QD rfl)<|QA (QD rfl)<|QA (QD rfl)<|QH rfl (fun w F hF ⟨⟨⟨⟨⟨⟨⟨⟨hGl,_⟩,_⟩,_⟩,_⟩,_⟩,_⟩,hs60⟩,_⟩=>hnumG w F hF) (fun _=>QA (YV rfl)<|QF<|QC<|ZE rfl<|QP<|QC<|QG<|QB<|QA (QD rfl)<|QA (QD rfl)<|QW rfl (Q8 Qe) Qp VE rfl rfl (fun b76=>QH rfl (fun w F hF ⟨⟨⟨⟨⟨⟨⟨⟨⟨⟨hGl,_⟩,_⟩,_⟩,_⟩,_⟩,_⟩,hs60⟩,_⟩,_⟩,hs76⟩=>Ng hF (JB.of (n:=2) (sz:=1) (cs:=List.map Q3 [Jl lo hi,YP b]) hs76 rfl) (by decide)) (fun _=>QA (QE rfl)<|QF<|QC ?_)))
      refine QG<|QG<|QB<|QA (QD rfl)<|QA (QU rfl rfl rfl)<|QF<|QC ?_
      refine QQ rfl (fun hc=>?_) (fun hc=>?_)
      ·
       have h79:¬ Qm [Jl lo hi,YP b]=0:=by simpa using hc
       have hspnB:∀ w F,Fits F w→QV Tryz.prog 26 [.agg #[tx (YA lo hi b).1.1,tx (YA lo hi b).1.2],.int .i64 (YA lo hi b).2,.int .i64 (Qm [Jl lo hi,YP b]),.agg #[tx [],tx []]] w F (.bool true):=fun w F hF=>by
        have h:=MG (a:=(YA lo hi b).1) (b:=([],[])) (e:=(YA lo hi b).2) (d:=Qm [Jl lo hi,YP b]) hF ⟨Nat.zero_le _,Nat.zero_le _⟩
        have e:YA lo hi b=(([],[]),Qm [Jl lo hi,YP b]):=by unfold YA;rw [if_neg h79]
        rw [e,Ft h79] at h
        rw [e]
        exact h
       refine QG<|QB<|QA (QJ (vs:=[_,_]) rfl JW .here (.here (.here .nil)) rfl)<|QA (QD rfl)<|QA (QD rfl)<|QA (Q4 rfl YI Zg .nil)<|QH rfl (fun w F hF ⟨⟨⟨⟨⟨⟨⟨⟨⟨⟨⟨hGl,_⟩,_⟩,_⟩,_⟩,_⟩,_⟩,hs60⟩,_⟩,_⟩,hs76⟩,_⟩=>hspnB w F hF) (fun _=>QA (QE rfl)<|QF<|QC<|QR ?_)
       exact QN (()) rfl (.tmp rfl .nil) (rfl) (fun F ⟨⟨⟨⟨⟨⟨⟨⟨⟨⟨⟨⟨hGl,_⟩,_⟩,_⟩,_⟩,_⟩,_⟩,hs60⟩,_⟩,_⟩,hs76⟩,_⟩,_⟩=>trivial)
      ·
       have h79:Qm [Jl lo hi,YP b]=0:=by simpa using hc
       have hck2:=ZG h79
       have hb3:=DO hck2.2
       have hcs:=Ys hck2.1
       have hlo:=(Xs hcs.1).1
       have hhi:=(Xs hcs.2.1).1
       have hz1:=J4 hcs.1
       have hz2:=J4 hcs.2.1
       have hoe:YA lo hi b=Vx (T6 (JM lo,JM hi) b):=by unfold YA;rw [if_pos h79]
       have houtG:∀ w F,Fits F w→QV Tryz.prog 27 [.agg #[tx lo,tx hi],.int .i64 b] w F (.agg #[tx (Qy (XP (JM lo) b.toNat)),tx (Qy (-XP (-(JM hi)) b.toNat))]):=fun w F hF=>by
        have h:=NA (a:=(JM lo,JM hi)) (b:=b) hF ⟨Nat.le_trans hz1 (by decide),Nat.le_trans hz2 (by decide)⟩ hb3.1 hb3.2
        change QV _ _ [.agg #[tx (Qy (JM lo)),tx (Qy (JM hi))],.int .i64 b] w F (.agg #[tx (Qy (XP (JM lo) b.toNat)),tx (Qy (-XP (-(JM hi)) b.toNat))]) at h
        rw [← hlo,← hhi] at h
        exact h
       have hspnG:∀ w F,Fits F w→QV Tryz.prog 26 [.agg #[tx (YA lo hi b).1.1,tx (YA lo hi b).1.2],.int .i64 (YA lo hi b).2,.int .i64 0,.agg #[tx (Qy (XP (JM lo) b.toNat)),tx (Qy (-XP (-(JM hi)) b.toNat))]] w F (.bool true):=fun w F hF=>by
        have h:=MG (a:=(YA lo hi b).1) (b:=(Qy (XP (JM lo) b.toNat),Qy (-XP (-(JM hi)) b.toNat))) (e:=(YA lo hi b).2) (d:=0) hF (by have e:=SK (JM lo,JM hi) b;have h1:=(VG (x:=JM lo) (i:=b.toNat) (Nat.le_trans hz1 (by decide)) (by omega)).2.2.2;have h2:=(VG (x:=-(JM hi)) (i:=b.toNat) (by rw [Ky];exact Nat.le_trans hz2 (by decide)) (by omega)).2.2.2;have h3:=YB (XP (JM lo) b.toNat);have h4:=YB (-XP (-(JM hi)) b.toNat);rw [Ky] at h4;exact⟨by show(Qy _).length≤_;omega,by show(Qy _).length≤_;omega⟩)
        have e:=TW (T6 (JM lo,JM hi) b)
        rw [SK] at e hoe
        rw [hoe] at h ⊢
        rw [e] at h
        exact h
       refine QP<|QC<|QG<|JG (List.Sublist.refl _) mixed (by kernel_rfl)<|QK (QJ (vs:=[_,_]) rfl JW .here (.here (.here .nil)) rfl)<|QK (QD rfl)<|QK (QJ (vs:=[_,_]) rfl JW (.there .here) (.here (.here .nil)) rfl)<|QK (QD rfl)<|QY rfl (fun w F hF ⟨⟨⟨⟨⟨⟨⟨⟨⟨⟨⟨hGl,_⟩,_⟩,_⟩,_⟩,_⟩,_⟩,hs60⟩,_⟩,_⟩,hs76⟩,_⟩=>houtG w F hF) (fun _=>QY rfl (fun w F hF ⟨⟨⟨⟨⟨⟨⟨⟨⟨⟨⟨⟨hGl,_⟩,_⟩,_⟩,_⟩,_⟩,_⟩,hs60⟩,_⟩,_⟩,hs76⟩,_⟩,_⟩=>hspnG w F hF) (fun _=>QK (QE rfl)<|Q2<|QC<|QR ?_))
       exact QN (()) rfl (.tmp rfl .nil) (rfl) (fun F ⟨⟨⟨⟨⟨⟨⟨⟨⟨⟨⟨⟨⟨hGl,_⟩,_⟩,_⟩,_⟩,_⟩,_⟩,hs60⟩,_⟩,_⟩,hs76⟩,_⟩,_⟩,_⟩=>trivial)
end
end Go.Proofs.YtknegjaeoffnbaaGreatDoor
