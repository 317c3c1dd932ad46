/- Steps of the proof of the theorem in the last file. -/
import Derived.Test.YteldggljlnakmaaGreatDoorP3
import Derived.Test.YteldggljlnakmaaGreatDoorRows
import Derived.ProofKit
import Derived.Carry
import Derived.LaidMore
import Derived.HandedShaped
import Derived.Lib.SmallJoins
import Derived.Stop.Joined
import Derived.Shelf.Vars
import Derived.OpenShut
import Derived.Test.YteldggljlnakmaaGreatDoorCards
import Derived.SevenTiedAt
import Derived.Lay
set_option linter.all false
set_option maxHeartbeats 4000000
open Go.Proofs.Tryz
namespace Go.Proofs.YteldggljlnakmaaGreatDoor
variable{H:Type}{w:World}{sp:Nat->Bool}
section
open Go.RowKit Go.ChangeShapes Go.WideShapes Ig
def V9(w:World):Gs:=λb=>match w.heap[b]? with
 |some (.cells c T _)=>some (c,T)
 |_=>none
def I2(w:World):Fits (V9 w) w:=by
 refine⟨λb c T h=>?_,λb c fr h=>?_⟩
 ·unfold V9 at h;split at h
  ·rename_i c' T' fr e;simp only[Option.some.injEq,Prod.mk.injEq]at h;obtain⟨rfl,rfl⟩:=h;exact⟨fr,e⟩
  cases h
 unfold V9;rw[h]
def B5:List (String×DataW Unit):=Rows.topTrainedRow.laid
theorem xV:ownKnob prog.godebug=none:=wu
theorem QEY:prog.globalNamed "internal/strconv.uint64pow10" = some 5:=wu
theorem Nt(hl:laidOutB prog=true){H:Type}{enc:TypeId×Value->H}{W W':World}(hb:Below W.heap.size W W'):∀ {ts:List TypeId} {vs:List Value} {ds:List (DataW H)} {ps:List MemPlace},
  (∀t∈ts,prog.readableRec t=true/\t<prog.types.size)->DataW.TrodAll enc prog W 0 (λ_=>true) true ts vs ds ps->(∀x∈ps,x.block<W.heap.size) ->
  DataW.TrodAll enc prog W' 0 (λb=>decide (b<W.heap.size)) true ts vs ds ps
 |[],_,_,_,_,h,_=>by
  obtain⟨rfl,rfl,rfl⟩:=trodAll_nil h;exact(rfl:([]:List MemPlace)=[])
 |t::ts,_,_,_,ht,h,hlt=>by
  obtain⟨v,vs1,d,ds1,a,b,rfl,rfl,rfl,h1,h2⟩:=trodAll_cons h;exact trodAll_cons_mk (Below.trod hl (ht t (List.mem_cons_self ..)).1 (ht t (List.mem_cons_self ..)).2 h1 hb λx hx=>hlt x (List.mem_append_left _ hx))
   (Nt hl hb (λt' h'=>ht t' (List.mem_cons_of_mem _ h')) h2 λx hx=>hlt x (List.mem_append_right _ hx))
theorem QHJ:(prog.globals[5]?).map (·.type)=some 319:=wu
theorem QHD:prog.underlying 319=some (.array 20 201):=wu
theorem QIC:prog.cellsOf 201=1:=wu
theorem QEo:prog.cellsOf 319=20:=wu
theorem QHE:prog.underlying 201=some (.int .u64):=wu
def Is{α:Type}{a b:List α}(h1:a.length=20)(h2:b.length=20)(h:∀i,i<20->a[i]?=b[i]?):a=b:=by
 apply List.ext_getElem?;intro i;rcases Nat.lt_or_ge i 20 with k | k
 ·exact h i k
 rw[List.getElem?_eq_none O,List.getElem?_eq_none O]
def CB:Rows.laid_internal_strconv_uint64pow10 (H:=Unit) = .agg (Lib.pow10Tab.map λz=>.lit (.int .u64 z)):=by
 unfold Rows.laid_internal_strconv_uint64pow10 Lib.pow10Tab;congr 1
theorem vt{enc:TypeId×Value->H}{fuel:Nat}{cs:List Value}{p:List MemPlace}(h:DataW.trod enc prog w 0 (λ_=>true) false fuel 319 cs=some (.agg (Lib.pow10Tab.map λz=>.lit (.int .u64 z)),p)):cs=Lib.pow10Tab.map λz=>Value.int .u64 z:=by
 obtain⟨xs,m,rfl,hx,hl,hn,hel⟩:=DataW.trod_array QHD h;rw[QEo]at hl;simp only[Prod.mk.injEq,DataW.agg.injEq]at hx;refine Is hl (by simp[Lib.pow10Tab]) λi hi=>?_;have e:=hel i hi;rw[QIC,Nat.mul_one]at e;have hix:i<xs.length:=O;rw[List.getElem?_eq_getElem hix]at e;obtain⟨z,e1,e2,_⟩:=DataW.trod_int QHE e;have hil:i<cs.length:=O;rw[List.drop_eq_getElem_cons hil]at e1;simp only[List.take_succ_cons,List.take_zero,List.cons.injEq,and_true]at e1;rw[List.getElem?_eq_getElem hil,e1];have h3:(xs.map (·.1))[i]?=some (.lit (.int .u64 z)):=by rw[List.getElem?_map,List.getElem?_eq_getElem hix,e2];rfl
 rw[<-hx.1,List.getElem?_map]at h3;rw[List.getElem?_map];cases hp:Lib.pow10Tab[i]? with
 |none=>rw[hp]at h3;cases h3
 |some y =>
  rw[hp]at h3;simp only[Option.map_some,Option.some.injEq,DataW.lit.injEq,Lit.int.injEq,true_and]at h3;rw[h3];rfl
theorem I1(hs:w.ShapedOpen prog)(hl:laidMetH prog B5 w):JZ (V9 w):=by
 refine⟨?_,?_⟩
 ·obtain⟨m,hm⟩:=cell_of_shapedOpen_int (P:=prog) (g:=0) (t:=3) (zero:=#[.int .i64 0]) (k:=.i64) hs wy wu rfl wu wu wu;obtain⟨cs,hh,hsz,_⟩:=hs.1 0 #[.int .i64 0] 3 wy wu;have h1:cs.size=1:=hsz;refine⟨m,3,?_⟩;unfold V9;rw[hh];simp only[World.cell?,hh]at hm;have:cs=#[.int .i64 m]:=by
   apply Array.ext_getElem?;intro i
   match i with
   |0=>simpa using hm
   |i+1=>rw[Array.getElem?_eq_none O,Array.getElem?_eq_none w9]
  rw[this]
 rw[MakeChecks.laidMetH_plain _ _ _ wu]at hl;obtain⟨ps,⟨g0,t0,cs0,f0,p0,q0,hg0,ht0,hv0,hd0,⟨g1,t1,cs1,f1,p1,q1,hg1,ht1,hv1,hd1,⟨g2,t2,cs2,f2,p2,q2,hg2,ht2,hv2,hd2,_,_⟩,_⟩,_⟩,_,_⟩:=hl;obtain rfl:=Option.some.inj (QEY.symm.trans hg2);obtain rfl:=Option.some.inj (QHJ.symm.trans ht2);have hd2':DataW.trod _ prog w 0 _ false f2 319 cs2.toList=some (Rows.laid_internal_strconv_uint64pow10 (H:=Unit),p2):=hd2;rw[CB]at hd2';have e:=vt hd2';unfold World.var? at hv2;rw[QEY]at hv2;simp only[Option.bind_some]at hv2;unfold V9;split at hv2
 ·rename_i c T fr hc;simp only[Option.some.injEq]at hv2;subst hv2;rw[hc];exact⟨T,by rw[<-e]⟩
 cases hv2
theorem R3{enc:TypeId×Value->H}{base:Nat}{held:Bool}:∀ {ts:List TypeId} {vs:List Value} {ds:List (DataW H)} {ps:List MemPlace},DataW.TrodAll enc prog w base sp held ts vs ds ps->ds.length=ts.length
 |[],_,_,_,h=>by obtain⟨rfl,rfl,rfl⟩:=trodAll_nil h;rfl
 |_::_,_,_,_,h=>by
  obtain⟨v,vs1,d,ds1,a,b,rfl,rfl,rfl,h1,h2⟩:=trodAll_cons h;simp[R3 h2]
theorem jM{enc:TypeId×Value->H}{gs:List (DataW H)}{ps:List MemPlace}(h:DataW.TrodVars enc prog w sp [] gs ps):gs=[]/\ps=[]:=by
 cases gs with
 |nil=>exact⟨rfl,h⟩
 |cons g r=>exact absurd h (by intro h;cases h)
theorem QDd:prog.underlying 4=some .bool:=wu
theorem Um:laidOutB prog=true:=wu
set_option maxRecDepth 100000 in
theorem zK{k:FuncId}{fn:Func}{s:ChangeSpec}(os:Os)(started:os.Started){H:Type}(enc:TypeId×Value->H)(hfn:prog.funcs[k]?=some fn)(hin:prog.inits.idxOf? k=none)
  (hv:s.vars=[]) (hs:∀ds:List (DataW H),ds.length=fn.params.size->s.fn H ds={ results:=[.lit (.bool true)],args:=ds }) (hr:fn.resultTypes=#[4])
  (hp:(fn.params.toList.all λt=>prog.readableRec t&&decide (t<prog.types.size))=true)
  (witness:∃(w:World) (tape:Tape) (i:Input),w.os=os/\(w.forCall tape i).Shaped prog/\i.vars=[]/\Input.okWide prog (w.forCall tape i) .any w.heap.size k i /\
   ((s.pre enc prog fn [] false (w.forCall tape i).memory i.args/\laidMetH prog B5 (w.forCall tape i).memory)/\sizedMet enc prog fn (OpenSpec.ofChange s) false (w.forCall tape i).memory i.args)/\({}:Assume).holds prog (lone (Frame.enter prog k i.args .normal) [] (w.forCall tape i)))
  (body:∀(W:World) (base:Nat) (args:Array Value) (ds:List (DataW H)) (ps:List MemPlace),(∀(j:Nat) t v,fn.params[j]?=some t->args[j]?=some v->Value.okWide prog W .any base t v) ->
   DataW.TrodAll enc prog W 0 (λ_=>true) true fn.params.toList args.toList ds ps->Fits (V9 W) W->JZ (V9 W)->QY prog k args.toList W (V9 W) (.bool true)) :
  ReturnsInHanded {} checked os k .any (λw args=>(s.pre enc prog fn [] false w args/\laidMetH prog B5 w)/\sizedMet enc prog fn (OpenSpec.ofChange s) false w args) (s.post enc prog fn false true false false):=by
 refine returnsInHanded_of_calls (C:=checked) xV started hin witness ?_;intro w tape i _ hsh _ hok hpre _;obtain⟨_,_,_,fn',hfn',_,_,_,_,hval⟩:=hok;obtain rfl:fn'=fn:=Option.some.inj (hfn'.symm.trans hfn);obtain⟨⟨⟨ds,gs,before,hw,hc⟩,hx⟩,hz⟩:=hpre;have hw:=DataW.Whole.of_heap (w':=w.forCall tape i) w8 hw;have hx:laidMetH prog B5 (w.forCall tape i):=hx.of_heap w8;revert hval hw hx hsh;generalize w.forCall tape i=W;generalize i.args=args;intro hsh hval hw hx;have hW:=hw;obtain⟨p,q,hA,hV,rfl,hfz,hnd⟩:=hw;rw[hv]at hV;obtain⟨rfl,rfl⟩:=jM hV;simp only[List.append_nil]at hW;obtain⟨_,hb⟩:=body W w.heap.size args ds p hval hA (I2 W) (I1 hsh hx);refine hb.mono λe W' h=>?_;obtain⟨c,F',rfl,he,_⟩:=h;have hbel:Below W.heap.size W W':=he.toBelow;have hlt:∀x∈p,x.block<W.heap.size:=λx hx=>hW.lt x hx;have hres:∀(b:Nat) (sp:Nat->Bool) (hd:Bool),DataW.TrodAll enc prog W' b sp hd fn'.resultTypes.toList ((Value.bool true).resultList fn'.resultTypes.size) [.lit (.bool true)] []:=λb sp hd=>by
  rw[hr];exact trodAll_mk1 (shut_bool QDd true)
 have hstay:DataW.TrodAll enc prog W' 0 (λb=>decide (b<W.heap.size)) true fn'.params.toList args.toList ds p :=
  Nt Um hbel (λt ht=>by have:=List.all_eq_true.1 hp t ht;simpa using this) hA hlt
 have hS:s.fn H ds={ results:=[.lit (.bool true)],args:=ds }:=hs ds (by simpa using R3 hA);refine ChangeSpec.post_blind (v:=.bool true) ⟨ds,[],p,[],p,[],hW,?_,?_,?_,hbel.frame _,λh=>by cases h⟩
 ·simp only[List.append_nil,hS];exact hres _ _ _
 ·simp only[List.append_nil,hS];exact hstay
 simp only[List.append_nil,hS,hv];rfl
end
section
open Go.RowKit Go.ChangeShapes Go.WideShapes Ig
theorem QGg:prog.underlying 3=some (.int .i64):=wu
theorem QBp:prog.underlying 45=some .string:=wu
theorem cS(os:Os)(args:Array Value):laidMetH prog B5 ((World.laidAll prog os B5).forCall (λ_ _=>0) ⟨#[],args,[]⟩).memory:=by
 rw[MakeChecks.laidMetH_plain _ _ _ wu];exact laidMet_laidAll _ wu wu
theorem QDp{enc:TypeId×Value->H}{base:Nat}{held:Bool}{n:Nat}{t:TypeId}{v:Value}{x:DataW H×List MemPlace}(ht:prog.underlying t=some .string)(h:DataW.trod enc prog w base sp held n t [v]=some x):∃l,v=tx l:=by
 obtain⟨s,e,_⟩:=DataW.trod_string ht h;obtain⟨rfl⟩:=List.cons.inj e;exact⟨s.data.toList,by simp[tx]⟩
def YS{a b:Bool}(h:a=true)(k:b=true):(a&&b)=true:=by rw[h,k];rfl
def QB6:laidOutB checked.prog=true:=Um
def QB2:mapsRowed checked.prog=true:=wu
def QB7:(Rows.topTrainedRow.plainKeys==checked.prog.plainKeys)=true:=wu
def uo:checked.prog.stopsHeard=true:=wu
def uq:checked.prog.mayEnter=true:=wu
def QB5:(Rows.topTrainedRow.lifted==checked.prog.liftsFinal)=true:=wu
def QB3:(checked.prog.make==some Rows.topTrainedRow.make)=true:=wu
def QB4:checked.prog.mainIs=some (true, "4f3072e64d8646386db7f01027e405f14e4f73fad45f0c205dbc4827728e3f0c".toList):=wu
def um:true=checked.prog.looks []:=wu
def OK{P:Program}(h:P.funcs.any Func.goes=false)(f:FuncId):P.goes f=false:=by
 unfold Program.goes;rw[h,Bool.and_false,Bool.or_false];refine List.any_eq_false.2 λg _=>?_;cases e:P.funcs[g]? with
 |none=>simp
 |some fn =>
  obtain⟨hi,e2⟩:=Array.getElem?_eq_some_iff.1 e;have:=Array.any_eq_false.1 h g hi;rw[e2]at this;simpa using this
def kY{c:OpenClaim}{P:Program}(h:P.funcs.any Func.goes=false):false=c.goesBy P:=by
 unfold OpenClaim.goesBy Program.goesAt Program.goesFrom;have h1:(P.funcNamed c.func).any P.goes=false:=by
  cases P.funcNamed c.func with
  |none=>rfl
  |some f=>exact OK h f
 have h2:P.inits.toList.any P.goes=false:=List.any_eq_false.2 λg _=>by rw[OK h g];decide
 rw[h1];cases c.start<;>simp[h2]
def QB1:checked.prog.funcs.any Func.goes=false:=wu
end
end Go.Proofs.YteldggljlnakmaaGreatDoor
