/- Steps of the proof of the theorem in the last file. -/
import Derived.Test.YtbpmnjieoncbcaaGreatDoorP4
import Derived.Test.YtbpmnjieoncbcaaGreatDoorRows
import Derived.ProofKit
import Derived.Carry
import Derived.LaidMore
import Derived.HandedShaped
import Derived.Lib.SmallJoins
import Derived.Stop.Joined
import Derived.Shelf.Vars
import Derived.OpenShut
import Derived.Test.YtbpmnjieoncbcaaGreatDoorCards
import Derived.SevenTiedAt
set_option linter.all false
set_option maxHeartbeats 4000000
open Go.Proofs.Tryz
open Go.DataW renaming TrodAll → aa,trod → aq
open List renaming getElem?_eq_getElem → ab,append_nil → ae,getElem?_map → ah,getElem?_eq_none → aj,mem_cons_self → ar
open Option.some renaming injEq → af,inj → ag
open Array renaming getElem?_eq_none → ai
open Go.OpenSpec renaming ofChange → ak
open Go.Lib renaming pow10Tab → ao
open Prod.mk renaming injEq → au
open Go.Value renaming okWide → av
namespace Go.Proofs.YtbpmnjieoncbcaaGreatDoor
variable{H:Type}{w:World}{sp:Nat->Bool}
section
open Go.RowKit Go.ChangeShapes Go.WideShapes Ig
def WQ(w:World):Gs:=λb=>match w.heap[b]? with
 |some (.cells c T _)=>some (c,T)
 |_=>none
def L3(w:World):Fits (WQ w) w:=by
 refine⟨λb c T h=>?_,λb c fr h=>?_⟩
 ·unfold WQ at h;split at h
  ·rename_i c' T' fr e;simp only[af,au]at h;obtain⟨rfl,rfl⟩:=h;exact⟨fr,e⟩
  cases h
 unfold WQ;rw[h]
def TI:List (String×DataW Unit):=Rows.encloseNestedRow.laid
theorem zz:ownKnob prog.godebug=none:=wm
theorem QET:prog.globalNamed "internal/strconv.uint64pow10" = some 5:=wm
theorem Pp(hl:laidOutB prog=true){H:Type}{enc:TypeId×Value->H}{W W':World}(hb:Below W.heap.size W W'):∀ {ts:List TypeId} {vs:List Value} {ds:List (DataW H)} {ps:List MemPlace},
  (∀t∈ts,prog.readableRec t=true/\t<prog.types.size)->aa enc prog W 0 (λ_=>true) true ts vs ds ps->(∀x∈ps,x.block<W.heap.size) ->
  aa enc prog W' 0 (λb=>decide (b<W.heap.size)) true ts vs ds ps
 |[],_,_,_,_,h,_=>by
  obtain⟨rfl,rfl,rfl⟩:=trodAll_nil h;exact(rfl:([]:List MemPlace)=[])
 |t::ts,_,_,_,ht,h,hlt=>by
  obtain⟨v,vs1,d,ds1,a,b,rfl,rfl,rfl,h1,h2⟩:=trodAll_cons h;exact trodAll_cons_mk (Below.trod hl (ht t (ar ..)).1 (ht t (ar ..)).2 h1 hb λx hx=>hlt x (List.mem_append_left _ hx))
   (Pp hl hb (λt' h'=>ht t' (List.mem_cons_of_mem _ h')) h2 λx hx=>hlt x (List.mem_append_right _ hx))
theorem QGQ:(prog.globals[5]?).map (·.type)=some 341:=wm
theorem QGJ:prog.underlying 341=some (.array 20 256):=wm
theorem QG2:prog.cellsOf 256=1:=wm
theorem QEl:prog.cellsOf 341=20:=wm
theorem QGK:prog.underlying 256=some (.int .u64):=wm
def Lx{α:Type}{a b:List α}(h1:a.length=20)(h2:b.length=20)(h:∀i,i<20->a[i]?=b[i]?):a=b:=by
 apply List.ext_getElem?;intro i;rcases Nat.lt_or_ge i 20 with k | k
 ·exact h i k
 rw[aj O,aj O]
def qI:Rows.laid_internal_strconv_uint64pow10 (H:=Unit) = .agg (Lib.pow10Tab.map λz=>.lit (.int .u64 z)):=by
 unfold Rows.laid_internal_strconv_uint64pow10 ao;congr 1
theorem dM{enc:TypeId×Value->H}{fuel:Nat}{cs:List Value}{p:List MemPlace}(h:aq enc prog w 0 (λ_=>true) false fuel 341 cs=some (.agg (Lib.pow10Tab.map λz=>.lit (.int .u64 z)),p)):cs=Lib.pow10Tab.map λz=>Value.int .u64 z:=by
 obtain⟨xs,m,rfl,hx,hl,hn,hel⟩:=DataW.trod_array QGJ h;rw[QEl]at hl;simp only[au,DataW.agg.injEq]at hx;refine Lx hl (by simp[ao]) λi hi=>?_;have e:=hel i hi;rw[QG2,Nat.mul_one]at e;have hix:i<xs.length:=O;rw[ab hix]at e;obtain⟨z,e1,e2,_⟩:=DataW.trod_int QGK e;have hil:i<cs.length:=O;rw[List.drop_eq_getElem_cons hil]at e1;simp only[List.take_succ_cons,List.take_zero,List.cons.injEq,and_true]at e1;rw[ab hil,e1];have h3:(xs.map (·.1))[i]?=some (.lit (.int .u64 z)):=by rw[ah,ab hix,e2];rfl
 rw[<-hx.1,ah]at h3;rw[ah];cases hp:ao[i]? with
 |none=>rw[hp]at h3;cases h3
 |some y =>
  rw[hp]at h3;simp only[Option.map_some,af,DataW.lit.injEq,Lit.int.injEq,true_and]at h3;rw[h3];rfl
theorem L2(hs:w.ShapedOpen prog)(hl:laidMetH prog TI w):JE (WQ w):=by
 refine⟨?_,?_⟩
 ·obtain⟨m,hm⟩:=cell_of_shapedOpen_int (P:=prog) (g:=0) (t:=3) (zero:=#[.int .i64 0]) (k:=.i64) hs wv wm rfl wm wm wm;obtain⟨cs,hh,hsz,_⟩:=hs.1 0 #[.int .i64 0] 3 wv wm;have h1:cs.size=1:=hsz;refine⟨m,3,?_⟩;unfold WQ;rw[hh];simp only[World.cell?,hh]at hm;have:cs=#[.int .i64 m]:=by
   apply Array.ext_getElem?;intro i
   match i with
   |0=>simpa using hm
   |i+1=>rw[ai O,ai wz]
  rw[this]
 rw[MakeChecks.laidMetH_plain _ _ _ wm]at hl;obtain⟨ps,⟨g0,t0,cs0,f0,p0,q0,hg0,ht0,hv0,hd0,⟨g1,t1,cs1,f1,p1,q1,hg1,ht1,hv1,hd1,⟨g2,t2,cs2,f2,p2,q2,hg2,ht2,hv2,hd2,_,_⟩,_⟩,_⟩,_,_⟩:=hl;obtain rfl:=ag (QET.symm.trans hg2);obtain rfl:=ag (QGQ.symm.trans ht2);have hd2':aq _ prog w 0 _ false f2 341 cs2.toList=some (Rows.laid_internal_strconv_uint64pow10 (H:=Unit),p2):=hd2;rw[qI]at hd2';have e:=dM hd2';unfold World.var? at hv2;rw[QET]at hv2;simp only[Option.bind_some]at hv2;unfold WQ;split at hv2
 ·rename_i c T fr hc;simp only[af]at hv2;subst hv2;rw[hc];exact⟨T,by rw[<-e]⟩
 cases hv2
theorem Si{enc:TypeId×Value->H}{base:Nat}{held:Bool}:∀ {ts:List TypeId} {vs:List Value} {ds:List (DataW H)} {ps:List MemPlace},aa enc prog w base sp held ts vs ds ps->ds.length=ts.length
 |[],_,_,_,h=>by obtain⟨rfl,rfl,rfl⟩:=trodAll_nil h;rfl
 |_::_,_,_,_,h=>by
  obtain⟨v,vs1,d,ds1,a,b,rfl,rfl,rfl,h1,h2⟩:=trodAll_cons h;simp[Si h2]
theorem xJ{enc:TypeId×Value->H}{gs:List (DataW H)}{ps:List MemPlace}(h:DataW.TrodVars enc prog w sp [] gs ps):gs=[]/\ps=[]:=by
 cases gs with
 |nil=>exact⟨rfl,h⟩
 |cons g r=>exact absurd h (by intro h;cases h)
theorem QDa:prog.underlying 4=some .bool:=wm
theorem Af:laidOutB prog=true:=wm
set_option maxRecDepth 100000 in
theorem yX{k:FuncId}{fn:Func}{s:ChangeSpec}(os:Os)(started:os.Started){H:Type}(enc:TypeId×Value->H)(hfn:prog.funcs[k]?=some fn)(hin:prog.inits.idxOf? k=none)
  (hv:s.vars=[]) (hs:∀ds:List (DataW H),ds.length=fn.params.size->s.fn H ds={ results:=[.lit (.bool true)],args:=ds }) (hr:fn.resultTypes=#[4])
  (hp:(fn.params.toList.all λt=>prog.readableRec t&&decide (t<prog.types.size))=true)
  (witness:∃(w:World) (tape:Tape) (i:Input),w.os=os/\(w.forCall tape i).Shaped prog/\i.vars=[]/\Input.okWide prog (w.forCall tape i) .any w.heap.size k i /\
   ((s.pre enc prog fn [] false (w.forCall tape i).memory i.args/\laidMetH prog TI (w.forCall tape i).memory)/\sizedMet enc prog fn (ak s) false (w.forCall tape i).memory i.args)/\({}:Assume).holds prog (lone (Frame.enter prog k i.args .normal) [] (w.forCall tape i)))
  (body:∀(W:World) (base:Nat) (args:Array Value) (ds:List (DataW H)) (ps:List MemPlace),(∀(j:Nat) t v,fn.params[j]?=some t->args[j]?=some v->av prog W .any base t v) ->
   aa enc prog W 0 (λ_=>true) true fn.params.toList args.toList ds ps->Fits (WQ W) W->JE (WQ W)->Qg prog k args.toList W (WQ W) (.bool true)) :
  ReturnsInHanded {} checked os k .any (λw args=>(s.pre enc prog fn [] false w args/\laidMetH prog TI w)/\sizedMet enc prog fn (ak s) false w args) (s.post enc prog fn false true false false):=by
 refine returnsInHanded_of_calls (C:=checked) zz started hin witness ?_;intro w tape i _ hsh _ hok hpre _;obtain⟨_,_,_,fn',hfn',_,_,_,_,hval⟩:=hok;obtain rfl:fn'=fn:=ag (hfn'.symm.trans hfn);obtain⟨⟨⟨ds,gs,before,hw,hc⟩,hx⟩,hz⟩:=hpre;have hw:=DataW.Whole.of_heap (w':=w.forCall tape i) wy hw;have hx:laidMetH prog TI (w.forCall tape i):=hx.of_heap wy;revert hval hw hx hsh;generalize w.forCall tape i=W;generalize i.args=args;intro hsh hval hw hx;have hW:=hw;obtain⟨p,q,hA,hV,rfl,hfz,hnd⟩:=hw;rw[hv]at hV;obtain⟨rfl,rfl⟩:=xJ hV;simp only[ae]at hW;obtain⟨_,hb⟩:=body W w.heap.size args ds p hval hA (L3 W) (L2 hsh hx);refine hb.mono λe W' h=>?_;obtain⟨c,F',rfl,he,_⟩:=h;have hbel:Below W.heap.size W W':=he.toBelow;have hlt:∀x∈p,x.block<W.heap.size:=λx hx=>hW.lt x hx;have hres:∀(b:Nat) (sp:Nat->Bool) (hd:Bool),aa enc prog W' b sp hd fn'.resultTypes.toList ((Value.bool true).resultList fn'.resultTypes.size) [.lit (.bool true)] []:=λb sp hd=>by
  rw[hr];exact trodAll_mk1 (shut_bool QDa true)
 have hstay:aa enc prog W' 0 (λb=>decide (b<W.heap.size)) true fn'.params.toList args.toList ds p :=
  Pp Af hbel (λt ht=>by have:=List.all_eq_true.1 hp t ht;simpa using this) hA hlt
 have hS:s.fn H ds={ results:=[.lit (.bool true)],args:=ds }:=hs ds (by simpa using Si hA);refine ChangeSpec.post_blind (v:=.bool true) ⟨ds,[],p,[],p,[],hW,?_,?_,?_,hbel.frame _,λh=>by cases h⟩
 ·simp only[ae,hS];exact hres _ _ _
 ·simp only[ae,hS];exact hstay
 simp only[ae,hS,hv];rfl
end
section
open Go.RowKit Go.ChangeShapes Go.WideShapes Ig
theorem QDZ:prog.underlying 3=some (.int .i64):=wm
theorem jV:prog.underlying 27=some .string:=wm
theorem cj(os:Os)(args:Array Value):laidMetH prog TI ((World.doorLaid prog 4000 os).forCall (λ_ _=>0) ⟨#[],args,[]⟩).memory :=
 laidMetH_of_parts3 (fuel:=8) (laidMet_of_run' 8 wm wm) wm wm
theorem LP{enc:TypeId×Value->H}{base:Nat}{held:Bool}{n:Nat}{t:TypeId}{v:Value}{x:DataW H×List MemPlace}(ht:prog.underlying t=some .string)(h:aq enc prog w base sp held n t [v]=some x):∃l,v=tx l:=by
 obtain⟨s,e,_⟩:=DataW.trod_string ht h;obtain⟨rfl⟩:=List.cons.inj e;exact⟨s.data.toList,by simp[tx]⟩
set_option maxRecDepth 100000 in
theorem QHP{enc:TypeId×Value->H}{b:Nat}{v:Value}{d:DataW H}{p:List MemPlace}(hv:av prog w .any b 38 v)(h:DataW.Trod enc prog w 0 (λ_=>true) true 38 v d p):∃lo hi,v = .agg #[tx lo,tx hi]:=by
 obtain⟨v0,v1,y0,y1,n,rfl,_,_,h0,h1⟩:=Joins.open_agg2 underlying38 wm wm hv h;obtain⟨lo,rfl⟩:=LP jV h0;obtain⟨hi,rfl⟩:=LP jV h1;exact⟨lo,hi,rfl⟩
def Y0{a b:Bool}(h:a=true)(k:b=true):(a&&b)=true:=by rw[h,k];rfl
def QCa:laidOutB checked.prog=true:=Af
def QCW:mapsRowed checked.prog=true:=wm
def QCb:(Rows.encloseNestedRow.plainKeys==checked.prog.plainKeys)=true:=wm
def cD:checked.prog.stopsHeard=true:=wm
def cE:checked.prog.mayEnter=true:=wm
def QCZ:(Rows.encloseNestedRow.lifted==checked.prog.liftsFinal)=true:=wm
def QCX:(checked.prog.make==some Rows.encloseNestedRow.make)=true:=wm
def QCY:checked.prog.mainIs=some (true, "e7a47d4e8686cc4facee2a3758277f3942a66852a9ac0d33b1e3d7fea33e2a59".toList):=wm
def cC:true=checked.prog.looks []:=wm
def QH8:false=Rows.encloseNestedRow.goesBy checked.prog:=wm
end
end Go.Proofs.YtbpmnjieoncbcaaGreatDoor
