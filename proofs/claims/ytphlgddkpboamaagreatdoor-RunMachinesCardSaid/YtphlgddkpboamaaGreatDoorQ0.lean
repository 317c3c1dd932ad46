/- Steps of the proof of the theorem in the last file. -/
import Derived.Test.YtphlgddkpboamaaGreatDoorP2
import Derived.Test.YtphlgddkpboamaaGreatDoorRows
import Derived.ProofKit
import Derived.Carry
import Derived.LaidMore
import Derived.HandedShaped
import Derived.Lib.SmallJoins
import Derived.Stop.Joined
import Derived.Shelf.Vars
import Derived.OpenShut
import Derived.Test.YtphlgddkpboamaaGreatDoorCards
import Derived.SevenTiedAt
import Derived.Lay
set_option linter.all false
set_option maxHeartbeats 4000000
open Go.Proofs.Tryz
open Go.DataW renaming TrodAll -> aa,trod -> ax
open List renaming getElem?_eq_getElem -> ae,append_nil -> af,getElem?_map -> aj,getElem?_eq_none -> aq,mem_cons_self -> ay
open Option.some renaming injEq -> ah,inj -> ai
open Go.MakeChecks renaming laidMetH_plain -> ak
open Array renaming getElem?_eq_none -> ao
open Go.OpenSpec renaming ofChange -> ar
open Go.Lib renaming pow10Tab -> au
open Prod.mk renaming injEq -> aA
open Go.Func renaming goes -> aB
namespace Go.Proofs.YtphlgddkpboamaaGreatDoor
variable{H:Type}{w:World}{sp:Nat->Bool}
section
open Go.RowKit Go.ChangeShapes Go.WideShapes Ig
def K8(w:World):Gs:=λb=>match w.heap[b]? with
 |some (.cells c T _)=>some (c,T)
 |_=>none
def UL(w:World):Fits (K8 w) w:=by
 refine⟨λb c T h=>?_,λb c fr h=>?_⟩
 ·unfold K8 at h;split at h
  ·rename_i c' T' fr e;simp only[ah,aA]at h;obtain⟨rfl,rfl⟩:=h;exact⟨fr,e⟩
  cases h
 unfold K8;rw[h]
def HH:List (String×DataW Unit):=Rows.runCountsRow.laid
theorem OZ:ownKnob prog.godebug=none:=wj
theorem QBw:prog.globalNamed "internal/strconv.uint64pow10" = some 3:=wj
theorem EY(hl:laidOutB prog=true){H:Type}{enc:TypeId×Value->H}{W W':World}(hb:Below W.heap.size W W'):∀ {ts:List TypeId} {vs:List Value} {ds:List (DataW H)} {ps:List MemPlace},
  (∀t∈ts,prog.readableRec t=true/\t<prog.types.size)->aa enc prog W 0 (λ_=>true) true ts vs ds ps->(∀x∈ps,x.block<W.heap.size) ->
  aa enc prog W' 0 (λb=>decide (b<W.heap.size)) true ts vs ds ps
 |[],_,_,_,_,h,_=>by
  obtain⟨rfl,rfl,rfl⟩:=trodAll_nil h;exact(rfl:([]:List MemPlace)=[])
 |t::ts,_,_,_,ht,h,hlt=>by
  obtain⟨v,vs1,d,ds1,a,b,rfl,rfl,rfl,h1,h2⟩:=trodAll_cons h;exact trodAll_cons_mk (Below.trod hl (ht t (ay ..)).1 (ht t (ay ..)).2 h1 hb λx hx=>hlt x (List.mem_append_left _ hx))
   (EY hl hb (λt' h'=>ht t' (List.mem_cons_of_mem _ h')) h2 λx hx=>hlt x (List.mem_append_right _ hx))
theorem QFq:(prog.globals[3]?).map (·.type)=some 388:=wj
theorem QFi:prog.underlying 388=some (.array 20 283):=wj
theorem QHP:prog.cellsOf 283=1:=wj
theorem QCR:prog.cellsOf 388=20:=wj
theorem QFj:prog.underlying 283=some (.int .u64):=wj
def UB{α:Type}{a b:List α}(h1:a.length=20)(h2:b.length=20)(h:∀i,i<20->a[i]?=b[i]?):a=b:=by
 apply List.ext_getElem?;intro i;rcases Nat.lt_or_ge i 20 with k | k
 ·exact h i k
 rw[aq O,aq O]
def FQ:Rows.laid_internal_strconv_uint64pow10 (H:=Unit) = .agg (Lib.pow10Tab.map λz=>.lit (.int .u64 z)):=by
 unfold Rows.laid_internal_strconv_uint64pow10 au;congr 1
theorem jV{enc:TypeId×Value->H}{fuel:Nat}{cs:List Value}{p:List MemPlace}(h:ax enc prog w 0 (λ_=>true) false fuel 388 cs=some (.agg (Lib.pow10Tab.map λz=>.lit (.int .u64 z)),p)):cs=Lib.pow10Tab.map λz=>Value.int .u64 z:=by
 obtain⟨xs,m,rfl,hx,hl,hn,hel⟩:=DataW.trod_array QFi h;rw[QCR]at hl;simp only[aA,DataW.agg.injEq]at hx;refine UB hl (by simp[au]) λi hi=>?_;have e:=hel i hi;rw[QHP,Nat.mul_one]at e;have hix:i<xs.length:=O;rw[ae hix]at e;obtain⟨z,e1,e2,_⟩:=DataW.trod_int QFj e;have hil:i<cs.length:=O;rw[List.drop_eq_getElem_cons hil]at e1;simp only[List.take_succ_cons,List.take_zero,List.cons.injEq,and_true]at e1;rw[ae hil,e1];have h3:(xs.map (·.1))[i]?=some (.lit (.int .u64 z)):=by rw[aj,ae hix,e2];rfl
 rw[<-hx.1,aj]at h3;rw[aj];cases hp:au[i]? with
 |none=>rw[hp]at h3;cases h3
 |some y =>
  rw[hp]at h3;simp only[Option.map_some,ah,DataW.lit.injEq,Lit.int.injEq,true_and]at h3;rw[h3];rfl
theorem UK(hs:w.ShapedOpen prog)(hl:laidMetH prog HH w):Ka (K8 w):=by
 refine⟨?_,?_⟩
 ·obtain⟨m,hm⟩:=cell_of_shapedOpen_int (P:=prog) (g:=0) (t:=3) (zero:=#[.int .i64 0]) (k:=.i64) hs wm wj rfl wj wj wj;obtain⟨cs,hh,hsz,_⟩:=hs.1 0 #[.int .i64 0] 3 wm wj;have h1:cs.size=1:=hsz;refine⟨m,3,?_⟩;unfold K8;rw[hh];simp only[World.cell?,hh]at hm;have:cs=#[.int .i64 m]:=by
   apply Array.ext_getElem?;intro i
   match i with
   |0=>simpa using hm
   |i+1=>rw[ao O,ao wv]
  rw[this]
 rw[ak _ _ _ wj]at hl;obtain⟨ps,⟨g0,t0,cs0,f0,p0,q0,hg0,ht0,hv0,hd0,⟨g1,t1,cs1,f1,p1,q1,hg1,ht1,hv1,hd1,⟨g2,t2,cs2,f2,p2,q2,hg2,ht2,hv2,hd2,_,_⟩,_⟩,_⟩,_,_⟩:=hl;obtain rfl:=ai (QBw.symm.trans hg2);obtain rfl:=ai (QFq.symm.trans ht2);have hd2':ax _ prog w 0 _ false f2 388 cs2.toList=some (Rows.laid_internal_strconv_uint64pow10 (H:=Unit),p2):=hd2;rw[FQ]at hd2';have e:=jV hd2';unfold World.var? at hv2;rw[QBw]at hv2;simp only[Option.bind_some]at hv2;unfold K8;split at hv2
 ·rename_i c T fr hc;simp only[ah]at hv2;subst hv2;rw[hc];exact⟨T,by rw[<-e]⟩
 cases hv2
theorem M0{enc:TypeId×Value->H}{base:Nat}{held:Bool}:∀ {ts:List TypeId} {vs:List Value} {ds:List (DataW H)} {ps:List MemPlace},aa enc prog w base sp held ts vs ds ps->ds.length=ts.length
 |[],_,_,_,h=>by obtain⟨rfl,rfl,rfl⟩:=trodAll_nil h;rfl
 |_::_,_,_,_,h=>by
  obtain⟨v,vs1,d,ds1,a,b,rfl,rfl,rfl,h1,h2⟩:=trodAll_cons h;simp[M0 h2]
theorem Lj{enc:TypeId×Value->H}{gs:List (DataW H)}{ps:List MemPlace}(h:DataW.TrodVars enc prog w sp [] gs ps):gs=[]/\ps=[]:=by
 cases gs with
 |nil=>exact⟨rfl,h⟩
 |cons g r=>exact absurd h (by intro h;cases h)
theorem QAc:prog.underlying 4=some .bool:=wj
theorem Rj:laidOutB prog=true:=wj
set_option maxRecDepth 100000 in
theorem O4{k:FuncId}{fn:Func}{s:ChangeSpec}(os:Os)(started:os.Started){H:Type}(enc:TypeId×Value->H)(hfn:prog.funcs[k]?=some fn)(hin:prog.inits.idxOf? k=none)
  (hv:s.vars=[]) (hs:∀ds:List (DataW H),ds.length=fn.params.size->s.fn H ds={ results:=[.lit (.bool true)],args:=ds }) (hr:fn.resultTypes=#[4])
  (hp:(fn.params.toList.all λt=>prog.readableRec t&&decide (t<prog.types.size))=true)
  (witness:∃(w:World) (tape:Tape) (i:Input),w.os=os/\(w.forCall tape i).Shaped prog/\i.vars=[]/\Input.okWide prog (w.forCall tape i) .any w.heap.size k i /\
   ((s.pre enc prog fn [] false (w.forCall tape i).memory i.args/\laidMetH prog HH (w.forCall tape i).memory)/\sizedMet enc prog fn (ar s) false (w.forCall tape i).memory i.args)/\({}:Assume).holds prog (lone (Frame.enter prog k i.args .normal) [] (w.forCall tape i)))
  (body:∀(W:World) (base:Nat) (args:Array Value) (ds:List (DataW H)) (ps:List MemPlace),(∀(j:Nat) t v,fn.params[j]?=some t->args[j]?=some v->Value.okWide prog W .any base t v) ->
   aa enc prog W 0 (λ_=>true) true fn.params.toList args.toList ds ps->Fits (K8 W) W->Ka (K8 W)->Qi prog k args.toList W (K8 W) (.bool true)) :
  ReturnsInHanded {} checked os k .any (λw args=>(s.pre enc prog fn [] false w args/\laidMetH prog HH w)/\sizedMet enc prog fn (ar s) false w args) (s.post enc prog fn false true false false):=by
 refine returnsInHanded_of_calls (C:=checked) OZ started hin witness ?_;intro w tape i _ hsh _ hok hpre _;obtain⟨_,_,_,fn',hfn',_,_,_,_,hval⟩:=hok;obtain rfl:fn'=fn:=ai (hfn'.symm.trans hfn);obtain⟨⟨⟨ds,gs,before,hw,hc⟩,hx⟩,hz⟩:=hpre;have hw:=DataW.Whole.of_heap (w':=w.forCall tape i) wu hw;have hx:laidMetH prog HH (w.forCall tape i):=hx.of_heap wu;revert hval hw hx hsh;generalize w.forCall tape i=W;generalize i.args=args;intro hsh hval hw hx;have hW:=hw;obtain⟨p,q,hA,hV,rfl,hfz,hnd⟩:=hw;rw[hv]at hV;obtain⟨rfl,rfl⟩:=Lj hV;simp only[af]at hW;obtain⟨_,hb⟩:=body W w.heap.size args ds p hval hA (UL W) (UK hsh hx);refine hb.mono λe W' h=>?_;obtain⟨c,F',rfl,he,_⟩:=h;have hbel:Below W.heap.size W W':=he.toBelow;have hlt:∀x∈p,x.block<W.heap.size:=λx hx=>hW.lt x hx;have hres:∀(b:Nat) (sp:Nat->Bool) (hd:Bool),aa enc prog W' b sp hd fn'.resultTypes.toList ((Value.bool true).resultList fn'.resultTypes.size) [.lit (.bool true)] []:=λb sp hd=>by
  rw[hr];exact trodAll_mk1 (shut_bool QAc true)
 have hstay:aa enc prog W' 0 (λb=>decide (b<W.heap.size)) true fn'.params.toList args.toList ds p :=
  EY Rj hbel (λt ht=>by have:=List.all_eq_true.1 hp t ht;simpa using this) hA hlt
 have hS:s.fn H ds={ results:=[.lit (.bool true)],args:=ds }:=hs ds (by simpa using M0 hA);refine ChangeSpec.post_blind (v:=.bool true) ⟨ds,[],p,[],p,[],hW,?_,?_,?_,hbel.frame _,λh=>by cases h⟩
 ·simp only[af,hS];exact hres _ _ _
 ·simp only[af,hS];exact hstay
 simp only[af,hS,hv];rfl
end
section
open Go.RowKit Go.ChangeShapes Go.WideShapes Ig
theorem QEz:prog.underlying 3=some (.int .i64):=wj
theorem QAa:prog.underlying 48=some .string:=wj
theorem y6(os:Os)(args:Array Value):laidMetH prog HH ((World.laidAll prog os HH).forCall (λ_ _=>0) ⟨#[],args,[]⟩).memory:=by
 rw[ak _ _ _ wj];exact laidMet_laidAll _ wj wj
theorem jI{enc:TypeId×Value->H}{base:Nat}{held:Bool}{n:Nat}{t:TypeId}{v:Value}{x:DataW H×List MemPlace}(ht:prog.underlying t=some .string)(h:ax enc prog w base sp held n t [v]=some x):∃l,v=tx l:=by
 obtain⟨s,e,_⟩:=DataW.trod_string ht h;obtain⟨rfl⟩:=List.cons.inj e;exact⟨s.data.toList,by simp[tx]⟩
def Zu{a b:Bool}(h:a=true)(k:b=true):(a&&b)=true:=by rw[h,k];rfl
def pX:laidOutB checked.prog=true:=Rj
def pT:mapsRowed checked.prog=true:=wj
def pY:(Rows.runCountsRow.plainKeys==checked.prog.plainKeys)=true:=wj
def yS:checked.prog.stopsHeard=true:=wj
def yU:checked.prog.mayEnter=true:=wj
def pW:(Rows.runCountsRow.lifted==checked.prog.liftsFinal)=true:=wj
def pU:(checked.prog.make==some Rows.runCountsRow.make)=true:=wj
def pV:checked.prog.mainIs=some (true, "fab1fad2b17ac901eb722dbf0382b16331c23e82043e6490dae2ac53ad462a07".toList):=wj
def yR:true=checked.prog.looks []:=wj
def AT{P:Program}(h:P.funcs.any aB=false)(f:FuncId):P.goes f=false:=by
 unfold Program.goes;rw[h,Bool.and_false,Bool.or_false];refine List.any_eq_false.2 λg _=>?_;cases e:P.funcs[g]? with
 |none=>simp
 |some fn =>
  obtain⟨hi,e2⟩:=Array.getElem?_eq_some_iff.1 e;have:=Array.any_eq_false.1 h g hi;rw[e2]at this;simpa using this
def qX{c:OpenClaim}{P:Program}(h:P.funcs.any aB=false):false=c.goesBy P:=by
 unfold OpenClaim.goesBy Program.goesAt Program.goesFrom;have h1:(P.funcNamed c.func).any P.goes=false:=by
  cases P.funcNamed c.func with
  |none=>rfl
  |some f=>exact AT h f
 have h2:P.inits.toList.any P.goes=false:=List.any_eq_false.2 λg _=>by rw[AT h g];decide
 rw[h1];cases c.start<;>simp[h2]
def pS:checked.prog.funcs.any aB=false:=wj
end
end Go.Proofs.YtphlgddkpboamaaGreatDoor
