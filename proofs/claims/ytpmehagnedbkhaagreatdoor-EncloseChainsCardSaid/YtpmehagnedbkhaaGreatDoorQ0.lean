/- Steps of the proof of the theorem in the last file. -/
import Derived.Test.YtpmehagnedbkhaaGreatDoorP4
import Derived.Test.YtpmehagnedbkhaaGreatDoorRows
import Derived.ProofKit
import Derived.Carry
import Derived.LaidMore
import Derived.HandedShaped
import Derived.Lib.SmallJoins
import Derived.Stop.Joined
import Derived.Shelf.Vars
import Derived.OpenShut
import Derived.Test.YtpmehagnedbkhaaGreatDoorCards
import Derived.SevenTiedAt
set_option linter.all false
set_option maxHeartbeats 4000000
open Go.Proofs.Tryz
open Go.DataW renaming TrodAll → aa,trod → ar
open List renaming getElem?_eq_getElem → ae,append_nil → af,getElem?_map → ai,getElem?_eq_none → ak,mem_cons_self → au
open Option.some renaming injEq → ag,inj → ah
open Array renaming getElem?_eq_none → aj
open Go.OpenSpec renaming ofChange → ao
open Go.Lib renaming pow10Tab → aq
open Prod.mk renaming injEq → av
open Go.Value renaming okWide → ax
namespace Go.Proofs.YtpmehagnedbkhaaGreatDoor
variable{H:Type}{w:World}{sp:Nat->Bool}
section
open Go.RowKit Go.ChangeShapes Go.WideShapes Ig
def Ei(w:World):Gs:=λb=>match w.heap[b]? with
 |some (.cells c T _)=>some (c,T)
 |_=>none
def OO(w:World):Fits (Ei w) w:=by
 refine⟨λb c T h=>?_,λb c fr h=>?_⟩
 ·unfold Ei at h;split at h
  ·rename_i c' T' fr e;simp only[ag,av]at h;obtain⟨rfl,rfl⟩:=h;exact⟨fr,e⟩
  cases h
 unfold Ei;rw[h]
def Ta:List (String×DataW Unit):=Rows.encloseChainsRow.laid
theorem ya:ownKnob prog.godebug=none:=wm
theorem QE2:prog.globalNamed "internal/strconv.uint64pow10" = some 5:=wm
theorem P3(hl:laidOutB prog=true){H:Type}{enc:TypeId×Value->H}{W W':World}(hb:Below W.heap.size W W'):∀ {ts:List TypeId} {vs:List Value} {ds:List (DataW H)} {ps:List MemPlace},
  (∀t∈ts,prog.readableRec t=true/\t<prog.types.size)->aa enc prog W 0 (λ_=>true) true ts vs ds ps->(∀x∈ps,x.block<W.heap.size) ->
  aa enc prog W' 0 (λb=>decide (b<W.heap.size)) true ts vs ds ps
 |[],_,_,_,_,h,_=>by
  obtain⟨rfl,rfl,rfl⟩:=trodAll_nil h;exact(rfl:([]:List MemPlace)=[])
 |t::ts,_,_,_,ht,h,hlt=>by
  obtain⟨v,vs1,d,ds1,a,b,rfl,rfl,rfl,h1,h2⟩:=trodAll_cons h;exact trodAll_cons_mk (Below.trod hl (ht t (au ..)).1 (ht t (au ..)).2 h1 hb λx hx=>hlt x (List.mem_append_left _ hx))
   (P3 hl hb (λt' h'=>ht t' (List.mem_cons_of_mem _ h')) h2 λx hx=>hlt x (List.mem_append_right _ hx))
theorem QHB:(prog.globals[5]?).map (·.type)=some 411:=wm
theorem QG5:prog.underlying 411=some (.array 20 289):=wm
theorem QH1:prog.cellsOf 289=1:=wm
theorem QFR:prog.cellsOf 411=20:=wm
theorem QG6:prog.underlying 289=some (.int .u64):=wm
def OI{α:Type}{a b:List α}(h1:a.length=20)(h2:b.length=20)(h:∀i,i<20->a[i]?=b[i]?):a=b:=by
 apply List.ext_getElem?;intro i;rcases Nat.lt_or_ge i 20 with k | k
 ·exact h i k
 rw[ak O,ak O]
def ql:Rows.laid_internal_strconv_uint64pow10 (H:=Unit) = .agg (Lib.pow10Tab.map λz=>.lit (.int .u64 z)):=by
 unfold Rows.laid_internal_strconv_uint64pow10 aq;congr 1
theorem pG{enc:TypeId×Value->H}{fuel:Nat}{cs:List Value}{p:List MemPlace}(h:ar enc prog w 0 (λ_=>true) false fuel 411 cs=some (.agg (Lib.pow10Tab.map λz=>.lit (.int .u64 z)),p)):cs=Lib.pow10Tab.map λz=>Value.int .u64 z:=by
 obtain⟨xs,m,rfl,hx,hl,hn,hel⟩:=DataW.trod_array QG5 h;rw[QFR]at hl;simp only[av,DataW.agg.injEq]at hx;refine OI hl (by simp[aq]) λi hi=>?_;have e:=hel i hi;rw[QH1,Nat.mul_one]at e;have hix:i<xs.length:=O;rw[ae hix]at e;obtain⟨z,e1,e2,_⟩:=DataW.trod_int QG6 e;have hil:i<cs.length:=O;rw[List.drop_eq_getElem_cons hil]at e1;simp only[List.take_succ_cons,List.take_zero,List.cons.injEq,and_true]at e1;rw[ae hil,e1];have h3:(xs.map (·.1))[i]?=some (.lit (.int .u64 z)):=by rw[ai,ae hix,e2];rfl
 rw[<-hx.1,ai]at h3;rw[ai];cases hp:aq[i]? with
 |none=>rw[hp]at h3;cases h3
 |some y =>
  rw[hp]at h3;simp only[Option.map_some,ag,DataW.lit.injEq,Lit.int.injEq,true_and]at h3;rw[h3];rfl
theorem ON(hs:w.ShapedOpen prog)(hl:laidMetH prog Ta w):JC (Ei w):=by
 refine⟨?_,?_⟩
 ·obtain⟨m,hm⟩:=cell_of_shapedOpen_int (P:=prog) (g:=0) (t:=3) (zero:=#[.int .i64 0]) (k:=.i64) hs wv wm rfl wm wm wm;obtain⟨cs,hh,hsz,_⟩:=hs.1 0 #[.int .i64 0] 3 wv wm;have h1:cs.size=1:=hsz;refine⟨m,3,?_⟩;unfold Ei;rw[hh];simp only[World.cell?,hh]at hm;have:cs=#[.int .i64 m]:=by
   apply Array.ext_getElem?;intro i
   match i with
   |0=>simpa using hm
   |i+1=>rw[aj O,aj wz]
  rw[this]
 rw[MakeChecks.laidMetH_plain _ _ _ wm]at hl;obtain⟨ps,⟨g0,t0,cs0,f0,p0,q0,hg0,ht0,hv0,hd0,⟨g1,t1,cs1,f1,p1,q1,hg1,ht1,hv1,hd1,⟨g2,t2,cs2,f2,p2,q2,hg2,ht2,hv2,hd2,_,_⟩,_⟩,_⟩,_,_⟩:=hl;obtain rfl:=ah (QE2.symm.trans hg2);obtain rfl:=ah (QHB.symm.trans ht2);have hd2':ar _ prog w 0 _ false f2 411 cs2.toList=some (Rows.laid_internal_strconv_uint64pow10 (H:=Unit),p2):=hd2;rw[ql]at hd2';have e:=pG hd2';unfold World.var? at hv2;rw[QE2]at hv2;simp only[Option.bind_some]at hv2;unfold Ei;split at hv2
 ·rename_i c T fr hc;simp only[ag]at hv2;subst hv2;rw[hc];exact⟨T,by rw[<-e]⟩
 cases hv2
theorem S3{enc:TypeId×Value->H}{base:Nat}{held:Bool}:∀ {ts:List TypeId} {vs:List Value} {ds:List (DataW H)} {ps:List MemPlace},aa enc prog w base sp held ts vs ds ps->ds.length=ts.length
 |[],_,_,_,h=>by obtain⟨rfl,rfl,rfl⟩:=trodAll_nil h;rfl
 |_::_,_,_,_,h=>by
  obtain⟨v,vs1,d,ds1,a,b,rfl,rfl,rfl,h1,h2⟩:=trodAll_cons h;simp[S3 h2]
theorem xp{enc:TypeId×Value->H}{gs:List (DataW H)}{ps:List MemPlace}(h:DataW.TrodVars enc prog w sp [] gs ps):gs=[]/\ps=[]:=by
 cases gs with
 |nil=>exact⟨rfl,h⟩
 |cons g r=>exact absurd h (by intro h;cases h)
theorem QEF:prog.underlying 4=some .bool:=wm
theorem FJ:laidOutB prog=true:=wm
set_option maxRecDepth 100000 in
theorem kB{k:FuncId}{fn:Func}{s:ChangeSpec}(os:Os)(started:os.Started){H:Type}(enc:TypeId×Value->H)(hfn:prog.funcs[k]?=some fn)(hin:prog.inits.idxOf? k=none)
  (hv:s.vars=[]) (hs:∀ds:List (DataW H),ds.length=fn.params.size->s.fn H ds={ results:=[.lit (.bool true)],args:=ds }) (hr:fn.resultTypes=#[4])
  (hp:(fn.params.toList.all λt=>prog.readableRec t&&decide (t<prog.types.size))=true)
  (witness:∃(w:World) (tape:Tape) (i:Input),w.os=os/\(w.forCall tape i).Shaped prog/\i.vars=[]/\Input.okWide prog (w.forCall tape i) .any w.heap.size k i /\
   ((s.pre enc prog fn [] false (w.forCall tape i).memory i.args/\laidMetH prog Ta (w.forCall tape i).memory)/\sizedMet enc prog fn (ao s) false (w.forCall tape i).memory i.args)/\({}:Assume).holds prog (lone (Frame.enter prog k i.args .normal) [] (w.forCall tape i)))
  (body:∀(W:World) (base:Nat) (args:Array Value) (ds:List (DataW H)) (ps:List MemPlace),(∀(j:Nat) t v,fn.params[j]?=some t->args[j]?=some v->ax prog W .any base t v) ->
   aa enc prog W 0 (λ_=>true) true fn.params.toList args.toList ds ps->Fits (Ei W) W->JC (Ei W)->Qe prog k args.toList W (Ei W) (.bool true)) :
  ReturnsInHanded {} checked os k .any (λw args=>(s.pre enc prog fn [] false w args/\laidMetH prog Ta w)/\sizedMet enc prog fn (ao s) false w args) (s.post enc prog fn false true false false):=by
 refine returnsInHanded_of_calls (C:=checked) ya started hin witness ?_;intro w tape i _ hsh _ hok hpre _;obtain⟨_,_,_,fn',hfn',_,_,_,_,hval⟩:=hok;obtain rfl:fn'=fn:=ah (hfn'.symm.trans hfn);obtain⟨⟨⟨ds,gs,before,hw,hc⟩,hx⟩,hz⟩:=hpre;have hw:=DataW.Whole.of_heap (w':=w.forCall tape i) wy hw;have hx:laidMetH prog Ta (w.forCall tape i):=hx.of_heap wy;revert hval hw hx hsh;generalize w.forCall tape i=W;generalize i.args=args;intro hsh hval hw hx;have hW:=hw;obtain⟨p,q,hA,hV,rfl,hfz,hnd⟩:=hw;rw[hv]at hV;obtain⟨rfl,rfl⟩:=xp hV;simp only[af]at hW;obtain⟨_,hb⟩:=body W w.heap.size args ds p hval hA (OO W) (ON hsh hx);refine hb.mono λe W' h=>?_;obtain⟨c,F',rfl,he,_⟩:=h;have hbel:Below W.heap.size W W':=he.toBelow;have hlt:∀x∈p,x.block<W.heap.size:=λx hx=>hW.lt x hx;have hres:∀(b:Nat) (sp:Nat->Bool) (hd:Bool),aa enc prog W' b sp hd fn'.resultTypes.toList ((Value.bool true).resultList fn'.resultTypes.size) [.lit (.bool true)] []:=λb sp hd=>by
  rw[hr];exact trodAll_mk1 (shut_bool QEF true)
 have hstay:aa enc prog W' 0 (λb=>decide (b<W.heap.size)) true fn'.params.toList args.toList ds p :=
  P3 FJ hbel (λt ht=>by have:=List.all_eq_true.1 hp t ht;simpa using this) hA hlt
 have hS:s.fn H ds={ results:=[.lit (.bool true)],args:=ds }:=hs ds (by simpa using S3 hA);refine ChangeSpec.post_blind (v:=.bool true) ⟨ds,[],p,[],p,[],hW,?_,?_,?_,hbel.frame _,λh=>by cases h⟩
 ·simp only[af,hS];exact hres _ _ _
 ·simp only[af,hS];exact hstay
 simp only[af,hS,hv];rfl
end
section
open Go.RowKit Go.ChangeShapes Go.WideShapes Ig
theorem QKZ:prog.underlying 3=some (.int .i64):=wm
theorem js:prog.underlying 41=some .string:=wm
theorem QAf(os:Os)(args:Array Value):laidMetH prog Ta ((World.doorLaid prog 4000 os).forCall (λ_ _=>0) ⟨#[],args,[]⟩).memory :=
 laidMetH_of_parts3 (fuel:=8) (laidMet_of_run' 8 wm wm) wm wm
theorem Ax{enc:TypeId×Value->H}{base:Nat}{held:Bool}{n:Nat}{t:TypeId}{v:Value}{x:DataW H×List MemPlace}(ht:prog.underlying t=some .string)(h:ar enc prog w base sp held n t [v]=some x):∃l,v=tx l:=by
 obtain⟨s,e,_⟩:=DataW.trod_string ht h;obtain⟨rfl⟩:=List.cons.inj e;exact⟨s.data.toList,by simp[tx]⟩
set_option maxRecDepth 100000 in
theorem QIR{enc:TypeId×Value->H}{b:Nat}{v:Value}{d:DataW H}{p:List MemPlace}(hv:ax prog w .any b 56 v)(h:DataW.Trod enc prog w 0 (λ_=>true) true 56 v d p):∃lo hi,v = .agg #[tx lo,tx hi]:=by
 obtain⟨v0,v1,y0,y1,n,rfl,_,_,h0,h1⟩:=Joins.open_agg2 underlying56 wm wm hv h;obtain⟨lo,rfl⟩:=Ax js h0;obtain⟨hi,rfl⟩:=Ax js h1;exact⟨lo,hi,rfl⟩
def Y1{a b:Bool}(h:a=true)(k:b=true):(a&&b)=true:=by rw[h,k];rfl
def QC5:laidOutB checked.prog=true:=FJ
def QC1:mapsRowed checked.prog=true:=wm
def QC6:(Rows.encloseChainsRow.plainKeys==checked.prog.plainKeys)=true:=wm
def QAH:checked.prog.stopsHeard=true:=wm
def QAI:checked.prog.mayEnter=true:=wm
def QC4:(Rows.encloseChainsRow.lifted==checked.prog.liftsFinal)=true:=wm
def QC2:(checked.prog.make==some Rows.encloseChainsRow.make)=true:=wm
def QC3:checked.prog.mainIs=some (true, "56559adeb064e839cf8b3946cef90c03fa4af672f842f0aaf67bd355a96889d2".toList):=wm
def QAG:true=checked.prog.looks []:=wm
def QJM:false=Rows.encloseChainsRow.goesBy checked.prog:=wm
end
end Go.Proofs.YtpmehagnedbkhaaGreatDoor
