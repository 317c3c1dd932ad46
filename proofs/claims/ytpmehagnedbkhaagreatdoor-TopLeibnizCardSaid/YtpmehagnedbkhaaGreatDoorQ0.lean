/- Steps of the proof of the theorem in the last file. -/
import Derived.Test.YtpmehagnedbkhaaGreatDoorP4
import Derived.Test.YtpmehagnedbkhaaGreatDoorRows
import Derived.ProofKit
import Derived.Carry
import Derived.LaidMore
import Derived.HandedShaped
import Derived.Lib.SmallJoins
import Derived.Stop.Joined
import Derived.Shelf.Vars
import Derived.OpenShut
import Derived.Test.YtpmehagnedbkhaaGreatDoorCards
import Derived.SevenTiedAt
set_option linter.all false
set_option maxHeartbeats 4000000
open Go.Proofs.Tryz
namespace Go.Proofs.YtpmehagnedbkhaaGreatDoor
variable{H:Type}{w:World}
section
open Go.RowKit Go.ChangeShapes Go.WideShapes Ig
def Vc(w:World):Gs:=λb=>match w.heap[b]? with
 |some (.cells c T _)=>some (c,T)
 |_=>none
def IY(w:World):Fits (Vc w) w:=by
 refine⟨λb c T h=>?_,λb c fr h=>?_⟩
 ·unfold Vc at h;split at h
  ·rename_i c' T' fr e;simp only[Option.some.injEq,Prod.mk.injEq]at h;obtain⟨rfl,rfl⟩:=h;exact⟨fr,e⟩
  cases h
 unfold Vc;rw[h]
def SQ:List (String×DataW Unit):=Rows.encloseChainsRow.laid
theorem jc:ownKnob prog.godebug=none:=wm
theorem QBc:prog.globalNamed "internal/strconv.uint64pow10" = some 5:=wm
theorem Ns(hl:laidOutB prog=true){H:Type}{enc:TypeId×Value->H}{W W':World}(hb:Below W.heap.size W W'):∀ {ts:List TypeId} {vs:List Value} {ds:List (DataW H)} {ps:List MemPlace},
  (∀t∈ts,prog.readableRec t=true/\t<prog.types.size)->DataW.TrodAll enc prog W 0 (λ_=>true) true ts vs ds ps->(∀x∈ps,x.block<W.heap.size) ->
  DataW.TrodAll enc prog W' 0 (λb=>decide (b<W.heap.size)) true ts vs ds ps
 |[],_,_,_,_,h,_=>by
  obtain⟨rfl,rfl,rfl⟩:=trodAll_nil h;exact(rfl:([]:List MemPlace)=[])
 |t::ts,_,_,_,ht,h,hlt=>by
  obtain⟨v,vs1,d,ds1,a,b,rfl,rfl,rfl,h1,h2⟩:=trodAll_cons h;exact trodAll_cons_mk (Below.trod hl (ht t (List.mem_cons_self ..)).1 (ht t (List.mem_cons_self ..)).2 h1 hb λx hx=>hlt x (List.mem_append_left _ hx))
   (Ns hl hb (λt' h'=>ht t' (List.mem_cons_of_mem _ h')) h2 λx hx=>hlt x (List.mem_append_right _ hx))
theorem QER:(prog.globals[5]?).map (·.type)=some 411:=wm
theorem QEJ:prog.underlying 411=some (.array 20 289):=wm
theorem QE5:prog.cellsOf 289=1:=wm
theorem QBx:prog.cellsOf 411=20:=wm
theorem QEK:prog.underlying 289=some (.int .u64):=wm
def IT{α:Type}{a b:List α}(h1:a.length=20)(h2:b.length=20)(h:∀i,i<20->a[i]?=b[i]?):a=b:=by
 apply List.ext_getElem?;intro i;rcases Nat.lt_or_ge i 20 with k | k
 ·exact h i k
 rw[List.getElem?_eq_none O,List.getElem?_eq_none O]
def Oc:Rows.laid_internal_strconv_uint64pow10 (H:=Unit) = .agg (Lib.pow10Tab.map λz=>.lit (.int .u64 z)):=by
 unfold Rows.laid_internal_strconv_uint64pow10 Lib.pow10Tab;congr 1
theorem yy{enc:TypeId×Value->H}{fuel:Nat}{cs:List Value}{p:List MemPlace}(h:DataW.trod enc prog w 0 (λ_=>true) false fuel 411 cs=some (.agg (Lib.pow10Tab.map λz=>.lit (.int .u64 z)),p)):cs=Lib.pow10Tab.map λz=>Value.int .u64 z:=by
 obtain⟨xs,m,rfl,hx,hl,hn,hel⟩:=DataW.trod_array QEJ h;rw[QBx]at hl;simp only[Prod.mk.injEq,DataW.agg.injEq]at hx;refine IT hl (by simp[Lib.pow10Tab]) λi hi=>?_;have e:=hel i hi;rw[QE5,Nat.mul_one]at e;have hix:i<xs.length:=O;rw[List.getElem?_eq_getElem hix]at e;obtain⟨z,e1,e2,_⟩:=DataW.trod_int QEK e;have hil:i<cs.length:=O;rw[List.drop_eq_getElem_cons hil]at e1;simp only[List.take_succ_cons,List.take_zero,List.cons.injEq,and_true]at e1;rw[List.getElem?_eq_getElem hil,e1];have h3:(xs.map (·.1))[i]?=some (.lit (.int .u64 z)):=by rw[List.getElem?_map,List.getElem?_eq_getElem hix,e2];rfl
 rw[<-hx.1,List.getElem?_map]at h3;rw[List.getElem?_map];cases hp:Lib.pow10Tab[i]? with
 |none=>rw[hp]at h3;cases h3
 |some y =>
  rw[hp]at h3;simp only[Option.map_some,Option.some.injEq,DataW.lit.injEq,Lit.int.injEq,true_and]at h3;rw[h3];rfl
theorem IX(hs:w.ShapedOpen prog)(hl:laidMetH prog SQ w):JG (Vc w):=by
 refine⟨?_,?_⟩
 ·obtain⟨m,hm⟩:=cell_of_shapedOpen_int (P:=prog) (g:=0) (t:=3) (zero:=#[.int .i64 0]) (k:=.i64) hs wv wm rfl wm wm wm;obtain⟨cs,hh,hsz,_⟩:=hs.1 0 #[.int .i64 0] 3 wv wm;have h1:cs.size=1:=hsz;refine⟨m,3,?_⟩;unfold Vc;rw[hh];simp only[World.cell?,hh]at hm;have:cs=#[.int .i64 m]:=by
   apply Array.ext_getElem?;intro i
   match i with
   |0=>simpa using hm
   |i+1=>rw[Array.getElem?_eq_none O,Array.getElem?_eq_none wz]
  rw[this]
 rw[MakeChecks.laidMetH_plain _ _ _ wm]at hl;obtain⟨ps,⟨g0,t0,cs0,f0,p0,q0,hg0,ht0,hv0,hd0,⟨g1,t1,cs1,f1,p1,q1,hg1,ht1,hv1,hd1,⟨g2,t2,cs2,f2,p2,q2,hg2,ht2,hv2,hd2,_,_⟩,_⟩,_⟩,_,_⟩:=hl;obtain rfl:=Option.some.inj (QBc.symm.trans hg2);obtain rfl:=Option.some.inj (QER.symm.trans ht2);have hd2':DataW.trod _ prog w 0 _ false f2 411 cs2.toList=some (Rows.laid_internal_strconv_uint64pow10 (H:=Unit),p2):=hd2;rw[Oc]at hd2';have e:=yy hd2';unfold World.var? at hv2;rw[QBc]at hv2;simp only[Option.bind_some]at hv2;unfold Vc;split at hv2
 ·rename_i c T fr hc;simp only[Option.some.injEq]at hv2;subst hv2;rw[hc];exact⟨T,by rw[<-e]⟩
 cases hv2
theorem Ru{enc:TypeId×Value->H}{base:Nat}{sp:Nat->Bool}{held:Bool}:∀ {ts:List TypeId} {vs:List Value} {ds:List (DataW H)} {ps:List MemPlace},DataW.TrodAll enc prog w base sp held ts vs ds ps->ds.length=ts.length
 |[],_,_,_,h=>by obtain⟨rfl,rfl,rfl⟩:=trodAll_nil h;rfl
 |_::_,_,_,_,h=>by
  obtain⟨v,vs1,d,ds1,a,b,rfl,rfl,rfl,h1,h2⟩:=trodAll_cons h;simp[Ru h2]
theorem qM{enc:TypeId×Value->H}{sp:Nat->Bool}{gs:List (DataW H)}{ps:List MemPlace}(h:DataW.TrodVars enc prog w sp [] gs ps):gs=[]/\ps=[]:=by
 cases gs with
 |nil=>exact⟨rfl,h⟩
 |cons g r=>exact absurd h (by intro h;cases h)
theorem QAp:prog.underlying 4=some .bool:=wm
theorem Ui:laidOutB prog=true:=wm
set_option maxRecDepth 100000 in
theorem j8{k:FuncId}{fn:Func}{s:ChangeSpec}(os:Os)(started:os.Started){H:Type}(enc:TypeId×Value->H)(hfn:prog.funcs[k]?=some fn)(hin:prog.inits.idxOf? k=none)
  (hv:s.vars=[]) (hs:∀ds:List (DataW H),ds.length=fn.params.size->s.fn H ds={ results:=[.lit (.bool true)],args:=ds }) (hr:fn.resultTypes=#[4])
  (hp:(fn.params.toList.all λt=>prog.readableRec t&&decide (t<prog.types.size))=true)
  (witness:∃(w:World) (tape:Tape) (i:Input),w.os=os/\(w.forCall tape i).Shaped prog/\i.vars=[]/\Input.okWide prog (w.forCall tape i) .any w.heap.size k i /\
   ((s.pre enc prog fn [] false (w.forCall tape i).memory i.args/\laidMetH prog SQ (w.forCall tape i).memory)/\sizedMet enc prog fn (OpenSpec.ofChange s) false (w.forCall tape i).memory i.args)/\({}:Assume).holds prog (lone (Frame.enter prog k i.args .normal) [] (w.forCall tape i)))
  (body:∀(W:World) (base:Nat) (args:Array Value) (ds:List (DataW H)) (ps:List MemPlace),(∀(j:Nat) t v,fn.params[j]?=some t->args[j]?=some v->Value.okWide prog W .any base t v) ->
   DataW.TrodAll enc prog W 0 (λ_=>true) true fn.params.toList args.toList ds ps->Fits (Vc W) W->JG (Vc W)->Qb prog k args.toList W (Vc W) (.bool true)) :
  ReturnsInHanded {} checked os k .any (λw args=>(s.pre enc prog fn [] false w args/\laidMetH prog SQ w)/\sizedMet enc prog fn (OpenSpec.ofChange s) false w args) (s.post enc prog fn false true false false):=by
 refine returnsInHanded_of_calls (C:=checked) jc started hin witness ?_;intro w tape i _ hsh _ hok hpre _;obtain⟨_,_,_,fn',hfn',_,_,_,_,hval⟩:=hok;obtain rfl:fn'=fn:=Option.some.inj (hfn'.symm.trans hfn);obtain⟨⟨⟨ds,gs,before,hw,hc⟩,hx⟩,hz⟩:=hpre;have hw:=DataW.Whole.of_heap (w':=w.forCall tape i) wy hw;have hx:laidMetH prog SQ (w.forCall tape i):=hx.of_heap wy;revert hval hw hx hsh;generalize w.forCall tape i=W;generalize i.args=args;intro hsh hval hw hx;have hW:=hw;obtain⟨p,q,hA,hV,rfl,hfz,hnd⟩:=hw;rw[hv]at hV;obtain⟨rfl,rfl⟩:=qM hV;simp only[List.append_nil]at hW;obtain⟨_,hb⟩:=body W w.heap.size args ds p hval hA (IY W) (IX hsh hx);refine hb.mono λe W' h=>?_;obtain⟨c,F',rfl,he,_⟩:=h;have hbel:Below W.heap.size W W':=he.toBelow;have hlt:∀x∈p,x.block<W.heap.size:=λx hx=>hW.lt x hx;have hres:∀(b:Nat) (sp:Nat->Bool) (hd:Bool),DataW.TrodAll enc prog W' b sp hd fn'.resultTypes.toList ((Value.bool true).resultList fn'.resultTypes.size) [.lit (.bool true)] []:=λb sp hd=>by
  rw[hr];exact trodAll_mk1 (shut_bool QAp true)
 have hstay:DataW.TrodAll enc prog W' 0 (λb=>decide (b<W.heap.size)) true fn'.params.toList args.toList ds p :=
  Ns Ui hbel (λt ht=>by have:=List.all_eq_true.1 hp t ht;simpa using this) hA hlt
 have hS:s.fn H ds={ results:=[.lit (.bool true)],args:=ds }:=hs ds (by simpa using Ru hA);refine ChangeSpec.post_blind (v:=.bool true) ⟨ds,[],p,[],p,[],hW,?_,?_,?_,hbel.frame _,λh=>by cases h⟩
 ·simp only[List.append_nil,hS];exact hres _ _ _
 ·simp only[List.append_nil,hS];exact hstay
 simp only[List.append_nil,hS,hv];rfl
end
section
open Go.RowKit Go.ChangeShapes Go.WideShapes Ig
theorem QDm:prog.underlying 3=some (.int .i64):=wm
theorem ux:prog.underlying 41=some .string:=wm
theorem dK(os:Os)(args:Array Value):laidMetH prog SQ ((World.doorLaid prog 4000 os).forCall (λ_ _=>0) ⟨#[],args,[]⟩).memory :=
 laidMetH_of_parts3 (fuel:=8) (laidMet_of_run' 8 wm wm) wm wm
def YV{a b:Bool}(h:a=true)(k:b=true):(a&&b)=true:=by rw[h,k];rfl
def cP:laidOutB checked.prog=true:=Ui
def cL:mapsRowed checked.prog=true:=wm
def cQ:(Rows.encloseChainsRow.plainKeys==checked.prog.plainKeys)=true:=wm
def gS:checked.prog.stopsHeard=true:=wm
def gT:checked.prog.mayEnter=true:=wm
def cO:(Rows.encloseChainsRow.lifted==checked.prog.liftsFinal)=true:=wm
def cM:(checked.prog.make==some Rows.encloseChainsRow.make)=true:=wm
def cN:checked.prog.mainIs=some (true, "56559adeb064e839cf8b3946cef90c03fa4af672f842f0aaf67bd355a96889d2".toList):=wm
def gR:true=checked.prog.looks []:=wm
end
end Go.Proofs.YtpmehagnedbkhaaGreatDoor
