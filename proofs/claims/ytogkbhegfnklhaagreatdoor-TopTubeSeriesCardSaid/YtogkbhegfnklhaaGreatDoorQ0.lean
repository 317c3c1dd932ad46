/- Steps of the proof of the theorem in the last file. -/
import Derived.Test.YtogkbhegfnklhaaGreatDoorP4
import Derived.Test.YtogkbhegfnklhaaGreatDoorRows
import Derived.ProofKit
import Derived.Carry
import Derived.LaidMore
import Derived.HandedShaped
import Derived.Lib.SmallJoins
import Derived.Stop.Joined
import Derived.Shelf.Vars
import Derived.OpenShut
import Derived.Test.YtogkbhegfnklhaaGreatDoorCards
import Derived.SevenTiedAt
import Derived.Lay
set_option linter.all false
set_option maxHeartbeats 4000000
open Go.Proofs.Tryz
open Go.DataW renaming TrodAll -> aa,trod -> ao
open List renaming append_nil -> ae,mem_cons_self -> aq
open Option.some renaming injEq -> af,inj -> ah
open Go.MakeChecks renaming laidMetH_plain -> ai
open Go.OpenSpec renaming ofChange -> aj
open Go.Lib renaming pow10Tab -> ak
open Prod.mk renaming injEq -> ar
namespace Go.Proofs.YtogkbhegfnklhaaGreatDoor
variable{H:Type}{w:World}{sp:Nat->Bool}
section
open Go.RowKit Go.ChangeShapes Go.WideShapes Ig
def WB(w:World):Gs:=λb=>match w.heap[b]? with
 |some (.cells c T _)=>some (c,T)
 |_=>none
def Ix(w:World):Fits (WB w) w:=by
 refine⟨λb c T h=>?_,λb c fr h=>?_⟩
 ·unfold WB at h;split at h
  ·rename_i c' T' fr e;simp only[af,ar]at h;obtain⟨rfl,rfl⟩:=h;exact⟨fr,e⟩
  cases h
 unfold WB;rw[h]
def B1:List (String×DataW Unit):=Rows.topTubeSeriesRow.laid
theorem zH:ownKnob prog.godebug=none:=wi
theorem QGN:prog.globalNamed "internal/strconv.uint64pow10" = some 5:=wi
theorem Nr(f:laidOutB prog=true){H:Type}{enc:TypeId×Value->H}{W g:World}(hb:Below W.heap.size W g):∀ {ts:List TypeId} {vs:List Value} {ds:List (DataW H)} {ps:List MemPlace},
  (∀t∈ts,prog.readableRec t=true/\t<prog.types.size)->aa enc prog W 0 (λ_=>true) true ts vs ds ps->(∀x∈ps,x.block<W.heap.size) ->
  aa enc prog g 0 (λb=>decide (b<W.heap.size)) true ts vs ds ps
 |[],_,_,_,_,h,_=>by
  obtain⟨rfl,rfl,rfl⟩:=trodAll_nil h;exact(rfl:([]:List MemPlace)=[])
 |t::ts,_,_,_,ht,h,c=>by
  obtain⟨v,i,d,m,a,b,rfl,rfl,rfl,h1,h2⟩:=trodAll_cons h;exact trodAll_cons_mk (Below.trod f (ht t (aq ..)).1 (ht t (aq ..)).2 h1 hb λx hx=>c x (List.mem_append_left _ hx))
   (Nr f hb (λj k=>ht j (List.mem_cons_of_mem _ k)) h2 λx hx=>c x (List.mem_append_right _ hx))
theorem QJn:(prog.globals[5]?).map (·.type)=some 364:=wi
theorem QJe:prog.underlying 364=some (.array 20 264):=wi
theorem QK2:prog.cellsOf 264=1:=wi
theorem QGo:prog.cellsOf 364=20:=wi
theorem QJf:prog.underlying 264=some (.int .u64):=wi
def Ip{α:Type}{a b:List α}(h1:a.length=20)(h2:b.length=20)(h:∀i,i<20->a[i]?=b[i]?):a=b:=by
 apply List.ext_getElem?;intro i;rcases Nat.lt_or_ge i 20 with k | k
 ·exact h i k
 rw[List.getElem?_eq_none O,List.getElem?_eq_none O]
def CI:Rows.laid_internal_strconv_uint64pow10 (H:=Unit) = .agg (Lib.pow10Tab.map λz=>.lit (.int .u64 z)):=by
 unfold Rows.laid_internal_strconv_uint64pow10 ak;congr 1
theorem gQ{enc:TypeId×Value->H}{fuel:Nat}{cs:List Value}{p:List MemPlace}(h:ao enc prog w 0 (λ_=>true) false fuel 364 cs=some (.agg (Lib.pow10Tab.map λz=>.lit (.int .u64 z)),p)):cs=Lib.pow10Tab.map λz=>Value.int .u64 z:=by
 obtain⟨xs,m,rfl,hx,f,j,c⟩:=DataW.trod_array QJe h;rw[QGo]at f;simp only[ar,DataW.agg.injEq]at hx;refine Ip f (by simp[ak]) λi hi=>?_;have e:=c i hi;rw[QK2,Nat.mul_one]at e;have a:i<xs.length:=O;rw[List.getElem?_eq_getElem a]at e;obtain⟨z,d,g,_⟩:=DataW.trod_int QJf e;have b:i<cs.length:=O;rw[List.drop_eq_getElem_cons b]at d;simp only[List.take_succ_cons,List.take_zero,List.cons.injEq,and_true]at d;rw[List.getElem?_eq_getElem b,d];have h3:(xs.map (·.1))[i]?=some (.lit (.int .u64 z)):=by rw[List.getElem?_map,List.getElem?_eq_getElem a,g];rfl
 rw[<-hx.1,List.getElem?_map]at h3;rw[List.getElem?_map];cases hp:ak[i]? with
 |none=>rw[hp]at h3;cases h3
 |some y =>
  rw[hp]at h3;simp only[Option.map_some,af,DataW.lit.injEq,Lit.int.injEq,true_and]at h3;rw[h3];rfl
theorem Iw(hs:w.ShapedOpen prog)(hl:laidMetH prog B1 w):JU (WB w):=by
 refine⟨?_,?_⟩
 ·obtain⟨m,hm⟩:=cell_of_shapedOpen_int (P:=prog) (g:=0) (t:=3) (zero:=#[.int .i64 0]) (k:=.i64) hs wk wi rfl wi wi wi;obtain⟨cs,hh,hsz,_⟩:=hs.1 0 #[.int .i64 0] 3 wk wi;have h1:cs.size=1:=hsz;refine⟨m,3,?_⟩;unfold WB;rw[hh];simp only[World.cell?,hh]at hm;have:cs=#[.int .i64 m]:=by
   apply Array.ext_getElem?;intro i
   match i with
   |0=>simpa using hm
   |i+1=>rw[Array.getElem?_eq_none O,Array.getElem?_eq_none wu]
  rw[this]
 rw[ai _ _ _ wi]at hl;obtain⟨ps,⟨g0,t0,cs0,f0,p0,q0,hg0,ht0,hv0,hd0,⟨g1,t1,cs1,f1,p1,q1,hg1,ht1,hv1,hd1,⟨g2,t2,cs2,f2,p2,q2,hg2,ht2,hv2,hd2,_,_⟩,_⟩,_⟩,_,_⟩:=hl;obtain rfl:=ah (QGN.symm.trans hg2);obtain rfl:=ah (QJn.symm.trans ht2);have hd2':ao _ prog w 0 _ false f2 364 cs2.toList=some (Rows.laid_internal_strconv_uint64pow10 (H:=Unit),p2):=hd2;rw[CI]at hd2';have e:=gQ hd2';unfold World.var? at hv2;rw[QGN]at hv2;simp only[Option.bind_some]at hv2;unfold WB;split at hv2
 ·rename_i c T fr hc;simp only[af]at hv2;subst hv2;rw[hc];exact⟨T,by rw[<-e]⟩
 cases hv2
theorem RZ{enc:TypeId×Value->H}{base:Nat}{c:Bool}:∀ {ts:List TypeId} {vs:List Value} {ds:List (DataW H)} {ps:List MemPlace},aa enc prog w base sp c ts vs ds ps->ds.length=ts.length
 |[],_,_,_,h=>by obtain⟨rfl,rfl,rfl⟩:=trodAll_nil h;rfl
 |_::_,_,_,_,h=>by
  obtain⟨v,f,d,g,a,b,rfl,rfl,rfl,h1,h2⟩:=trodAll_cons h;simp[RZ h2]
theorem jl{enc:TypeId×Value->H}{a:List (DataW H)}{ps:List MemPlace}(h:DataW.TrodVars enc prog w sp [] a ps):a=[]/\ps=[]:=by
 cases a with
 |nil=>exact⟨rfl,h⟩
 |cons g r=>exact absurd h (by intro h;cases h)
theorem QEt:prog.underlying 4=some .bool:=wi
theorem Uk:laidOutB prog=true:=wi
set_option maxRecDepth 100000 in
theorem z6{k:FuncId}{fn:Func}{s:ChangeSpec}(os:Os)(d:os.Started){H:Type}(enc:TypeId×Value->H)(hfn:prog.funcs[k]?=some fn)(Y:prog.inits.idxOf? k=none)
  (hv:s.vars=[]) (hs:∀ds:List (DataW H),ds.length=fn.params.size->s.fn H ds={ results:=[.lit (.bool true)],args:=ds }) (hr:fn.resultTypes=#[4])
  (hp:(fn.params.toList.all λt=>prog.readableRec t&&decide (t<prog.types.size))=true)
  (a:∃(w:World) (tape:Tape) (i:Input),w.os=os/\(w.forCall tape i).Shaped prog/\i.vars=[]/\Input.okWide prog (w.forCall tape i) .any w.heap.size k i /\
   ((s.pre enc prog fn [] false (w.forCall tape i).memory i.args/\laidMetH prog B1 (w.forCall tape i).memory)/\sizedMet enc prog fn (aj s) false (w.forCall tape i).memory i.args)/\({}:Assume).holds prog (lone (Frame.enter prog k i.args .normal) [] (w.forCall tape i)))
  (L:∀(W:World) (base:Nat) (args:Array Value) (ds:List (DataW H)) (ps:List MemPlace),(∀(j:Nat) t v,fn.params[j]?=some t->args[j]?=some v->Value.okWide prog W .any base t v) ->
   aa enc prog W 0 (λ_=>true) true fn.params.toList args.toList ds ps->Fits (WB W) W->JU (WB W)->QX prog k args.toList W (WB W) (.bool true)) :
  ReturnsInHanded {} checked os k .any (λw args=>(s.pre enc prog fn [] false w args/\laidMetH prog B1 w)/\sizedMet enc prog fn (aj s) false w args) (s.post enc prog fn false true false false):=by
 refine returnsInHanded_of_calls (C:=checked) zH d Y a ?_;intro w tape i _ y _ U F _;obtain⟨_,_,_,g,K,_,_,_,_,f⟩:=U;obtain rfl:g=fn:=ah (K.symm.trans hfn);obtain⟨⟨⟨ds,gs,before,z,hc⟩,hx⟩,hz⟩:=F;have z:=DataW.Whole.of_heap (w':=w.forCall tape i) wm z;have hx:laidMetH prog B1 (w.forCall tape i):=hx.of_heap wm;revert f z hx y;generalize w.forCall tape i=W;generalize i.args=args;intro y f z hx;have hW:=z;obtain⟨p,q,hA,hV,rfl,hfz,hnd⟩:=z;rw[hv]at hV;obtain⟨rfl,rfl⟩:=jl hV;simp only[ae]at hW;obtain⟨_,hb⟩:=L W w.heap.size args ds p f hA (Ix W) (Iw y hx);refine hb.mono λe W' h=>?_;obtain⟨c,F',rfl,he,_⟩:=h;have m:Below W.heap.size W W':=he.toBelow;have X:∀x∈p,x.block<W.heap.size:=λx hx=>hW.lt x hx;have E:∀(b:Nat) (sp:Nat->Bool) (hd:Bool),aa enc prog W' b sp hd g.resultTypes.toList ((Value.bool true).resultList g.resultTypes.size) [.lit (.bool true)] []:=λb sp hd=>by
  rw[hr];exact trodAll_mk1 (shut_bool QEt true)
 have o:aa enc prog W' 0 (λb=>decide (b<W.heap.size)) true g.params.toList args.toList ds p :=
  Nr Uk m (λt ht=>by have:=List.all_eq_true.1 hp t ht;simpa using this) hA X
 have hS:s.fn H ds={ results:=[.lit (.bool true)],args:=ds }:=hs ds (by simpa using RZ hA);refine ChangeSpec.post_blind (v:=.bool true) ⟨ds,[],p,[],p,[],hW,?_,?_,?_,m.frame _,λh=>by cases h⟩
 ·simp only[ae,hS];exact E _ _ _
 ·simp only[ae,hS];exact o
 simp only[ae,hS,hv];rfl
end
section
open Go.RowKit Go.ChangeShapes Go.WideShapes Ig
theorem QI7:prog.underlying 3=some (.int .i64):=wi
theorem uZ:prog.underlying 27=some .string:=wi
theorem QAG(os:Os)(args:Array Value):laidMetH prog B1 ((World.laidAll prog os B1).forCall (λ_ _=>0) ⟨#[],args,[]⟩).memory:=by
 rw[ai _ _ _ wi];exact laidMet_laidAll _ wi wi
theorem QAw{enc:TypeId×Value->H}{base:Nat}{a:Bool}{n:Nat}{t:TypeId}{v:Value}{x:DataW H×List MemPlace}(ht:prog.underlying t=some .string)(h:ao enc prog w base sp a n t [v]=some x):∃l,v=tx l:=by
 obtain⟨s,e,_⟩:=DataW.trod_string ht h;obtain⟨rfl⟩:=List.cons.inj e;exact⟨s.data.toList,by simp[tx]⟩
def YF{a b:Bool}(h:a=true)(k:b=true):(a&&b)=true:=by rw[h,k];rfl
def QC4:laidOutB checked.prog=true:=Uk
def QC0:mapsRowed checked.prog=true:=wi
def QC5:(Rows.topTubeSeriesRow.plainKeys==checked.prog.plainKeys)=true:=wi
def cI:checked.prog.stopsHeard=true:=wi
def cJ:checked.prog.mayEnter=true:=wi
def QC3:(Rows.topTubeSeriesRow.lifted==checked.prog.liftsFinal)=true:=wi
def QC1:(checked.prog.make==some Rows.topTubeSeriesRow.make)=true:=wi
def QC2:checked.prog.mainIs=some (true, "a68662b76be833d081ba8f18971c18de1e8388eb992191c407b52de12ea41419".toList):=wi
def cH:true=checked.prog.looks []:=wi
end
end Go.Proofs.YtogkbhegfnklhaaGreatDoor
