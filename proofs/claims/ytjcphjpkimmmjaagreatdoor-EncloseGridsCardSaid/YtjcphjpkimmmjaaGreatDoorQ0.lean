/- Steps of the proof of the theorem in the last file. -/
import Derived.Test.YtjcphjpkimmmjaaGreatDoorP5
import Derived.Test.YtjcphjpkimmmjaaGreatDoorRows
import Derived.ProofKit
import Derived.Carry
import Derived.LaidMore
import Derived.HandedShaped
import Derived.Lib.SmallJoins
import Derived.Stop.Joined
import Derived.Shelf.Vars
import Derived.OpenShut
import Derived.Test.YtjcphjpkimmmjaaGreatDoorCards
import Derived.SevenTiedAt
set_option linter.all false
set_option maxHeartbeats 4000000
open Go.DataW renaming TrodAll → aa,trod → au
open List renaming getElem?_eq_getElem → ab,append_nil → ae,getElem?_map → ah,getElem?_eq_none → aj,mem_cons_self → aq
open Option.some renaming injEq → af,inj → ag
open Array renaming getElem?_eq_none → ai
open Go.OpenSpec renaming ofChange → ak
open Go.Lib renaming pow10Tab → ao
open Prod.mk renaming injEq → ar
namespace Go.Proofs.YtjcphjpkimmmjaaGreatDoor
variable{H:Type}{w:World}
section
open Go.RowKit Go.ChangeShapes Go.WideShapes Ig
def Ev(w:World):Gs:=λb=>match w.heap[b]? with
 |some (.cells c T _)=>some (c,T)
 |_=>none
theorem O2(w:World):Fits (Ev w) w:=by
 refine⟨λb c T h=>?_,λb c fr h=>?_⟩
 ·unfold Ev at h
  split at h
  ·rename_i c' T' fr e
   simp only[af,ar]at h
   obtain⟨rfl,rfl⟩:=h
   exact⟨fr,e⟩
  ·cases h
 ·unfold Ev;rw[h]
def UB:List (String×DataW Unit):=Rows.encloseGridsRow.laid
theorem kE:ownKnob Tryz.prog.godebug=none:=y0
theorem QEj:Tryz.prog.globalNamed "internal/strconv.uint64pow10" = some 5:=y0
theorem RR(hl:laidOutB Tryz.prog=true){H:Type}{enc:TypeId×Value->H}{W W':World}(hb:Below W.heap.size W W'):∀ {ts:List TypeId} {vs:List Value} {ds:List (DataW H)} {ps:List MemPlace},
  (∀t∈ts,Tryz.prog.readableRec t=true/\t<Tryz.prog.types.size)->aa enc Tryz.prog W 0 (λ_=>true) true ts vs ds ps->(∀x∈ps,x.block<W.heap.size) ->
  aa enc Tryz.prog W' 0 (λb=>decide (b<W.heap.size)) true ts vs ds ps
 |[],_,_,_,_,h,_=>by
  obtain⟨rfl,rfl,rfl⟩:=trodAll_nil h
  exact(rfl:([]:List MemPlace)=[])
 |t::ts,_,_,_,ht,h,hlt=>by
  obtain⟨v,vs1,d,ds1,a,b,rfl,rfl,rfl,h1,h2⟩:=trodAll_cons h
  exact trodAll_cons_mk (Below.trod hl (ht t (aq ..)).1 (ht t (aq ..)).2 h1 hb (λx hx=>hlt x (List.mem_append_left _ hx)))
   (RR hl hb (λt' h'=>ht t' (List.mem_cons_of_mem _ h')) h2 (λx hx=>hlt x (List.mem_append_right _ hx)))
theorem QF6:(Tryz.prog.globals[5]?).map (·.type)=some 390:=y0
theorem QF1:Tryz.prog.underlying 390=some (.array 20 297):=y0
theorem QGd:Tryz.prog.cellsOf 297=1:=y0
theorem QEs:Tryz.prog.cellsOf 390=20:=y0
theorem QF2:Tryz.prog.underlying 297=some (.int .u64):=y0
theorem Ow{α:Type}{a b:List α}(h1:a.length=20)(h2:b.length=20)(h:∀i,i<20->a[i]?=b[i]?):a=b:=by
 apply List.ext_getElem?
 intro i
 rcases Nat.lt_or_ge i 20 with k | k
 ·exact h i k
 ·rw[aj O,aj O]
theorem jX:Rows.laid_internal_strconv_uint64pow10 (H:=Unit) = .agg (Lib.pow10Tab.map λz=>.lit (.int .u64 z)):=by
 unfold Rows.laid_internal_strconv_uint64pow10 ao
 congr 1
theorem pL{enc:TypeId×Value->H}{fuel:Nat}{cs:List Value}{p:List MemPlace}(h:au enc Tryz.prog w 0 (λ_=>true) false fuel 390 cs=some (.agg (Lib.pow10Tab.map λz=>.lit (.int .u64 z)),p)):cs=Lib.pow10Tab.map λz=>Value.int .u64 z:=by
 obtain⟨xs,m,rfl,hx,hl,hn,hel⟩:=DataW.trod_array QF1 h
 rw[QEs]at hl
 simp only[ar,DataW.agg.injEq]at hx
 refine Ow hl (by simp[ao]) λi hi=>?_
 have e:=hel i hi
 rw[QGd,Nat.mul_one]at e
 have hix:i<xs.length:=O
 rw[ab hix]at e
 obtain⟨z,e1,e2,_⟩:=DataW.trod_int QF2 e
 have hil:i<cs.length:=O
 rw[List.drop_eq_getElem_cons hil]at e1
 simp only[List.take_succ_cons,List.take_zero,List.cons.injEq,and_true]at e1
 rw[ab hil,e1]
 have h3:(xs.map (·.1))[i]?=some (.lit (.int .u64 z)):=by rw[ah,ab hix,e2];rfl
 rw[<-hx.1,ah]at h3
 rw[ah]
 cases hp:ao[i]? with
 |none=>rw[hp]at h3;cases h3
 |some y =>
  rw[hp]at h3
  simp only[Option.map_some,af,DataW.lit.injEq,Lit.int.injEq,true_and]at h3
  rw[h3];rfl
theorem O1(hs:w.ShapedOpen Tryz.prog)(hl:laidMetH Tryz.prog UB w):JC (Ev w):=by
 refine⟨?_,?_⟩
 ·obtain⟨m,hm⟩:=cell_of_shapedOpen_int (P:=Tryz.prog) (g:=0) (t:=3) (zero:=#[.int .i64 0]) (k:=.i64) hs wb y0 rfl y0 y0 y0
  obtain⟨cs,hh,hsz,_⟩:=hs.1 0 #[.int .i64 0] 3 wb y0
  have h1:cs.size=1:=hsz
  refine⟨m,3,?_⟩
  unfold Ev
  rw[hh]
  simp only[World.cell?,hh]at hm
  have:cs=#[.int .i64 m]:=by
   apply Array.ext_getElem?
   intro i
   match i with
   |0=>simpa using hm
   |i+1=>rw[ai O,ai we]
  rw[this]
 ·rw[MakeChecks.laidMetH_plain _ _ _ y0]at hl
  obtain⟨ps,⟨g0,t0,cs0,f0,p0,q0,hg0,ht0,hv0,hd0,⟨g1,t1,cs1,f1,p1,q1,hg1,ht1,hv1,hd1,⟨g2,t2,cs2,f2,p2,q2,hg2,ht2,hv2,hd2,_,_⟩,_⟩,_⟩,_,_⟩:=hl
  obtain rfl:=ag (QEj.symm.trans hg2)
  obtain rfl:=ag (QF6.symm.trans ht2)
  have hd2':au _ Tryz.prog w 0 _ false f2 390 cs2.toList=some (Rows.laid_internal_strconv_uint64pow10 (H:=Unit),p2):=hd2
  rw[jX]at hd2'
  have e:=pL hd2'
  unfold World.var? at hv2
  rw[QEj]at hv2
  simp only[Option.bind_some]at hv2
  unfold Ev
  split at hv2
  ·rename_i c T fr hc
   simp only[af]at hv2
   subst hv2
   rw[hc]
   exact⟨T,by rw[<-e]⟩
  ·cases hv2
theorem TZ{enc:TypeId×Value->H}{base:Nat}{sp:Nat->Bool}{held:Bool}:∀ {ts:List TypeId} {vs:List Value} {ds:List (DataW H)} {ps:List MemPlace},aa enc Tryz.prog w base sp held ts vs ds ps->ds.length=ts.length
 |[],_,_,_,h=>by obtain⟨rfl,rfl,rfl⟩:=trodAll_nil h;rfl
 |_::_,_,_,_,h=>by
  obtain⟨v,vs1,d,ds1,a,b,rfl,rfl,rfl,h1,h2⟩:=trodAll_cons h
  simp[TZ h2]
theorem zS{enc:TypeId×Value->H}{sp:Nat->Bool}{gs:List (DataW H)}{ps:List MemPlace}(h:DataW.TrodVars enc Tryz.prog w sp [] gs ps):gs=[]/\ps=[]:=by
 cases gs with
 |nil=>exact⟨rfl,h⟩
 |cons g r=>exact absurd h (by intro h;cases h)
theorem QDg:Tryz.prog.underlying 4=some .bool:=y0
theorem Fy:laidOutB Tryz.prog=true:=y0
set_option maxRecDepth 100000 in
theorem kh{k:FuncId}{fn:Func}{s:ChangeSpec}(os:Os)(started:os.Started){H:Type}(enc:TypeId×Value->H)(hfn:Tryz.prog.funcs[k]?=some fn)(hin:Tryz.prog.inits.idxOf? k=none)
  (hv:s.vars=[]) (hs:∀ds:List (DataW H),ds.length=fn.params.size->s.fn H ds={ results:=[.lit (.bool true)],args:=ds }) (hr:fn.resultTypes=#[4])
  (hp:(fn.params.toList.all λt=>Tryz.prog.readableRec t&&decide (t<Tryz.prog.types.size))=true)
  (witness:∃(w:World) (tape:Tape) (i:Input),w.os=os/\(w.forCall tape i).Shaped Tryz.prog/\i.vars=[]/\Input.okWide Tryz.prog (w.forCall tape i) .any w.heap.size k i /\
   ((s.pre enc Tryz.prog fn [] false (w.forCall tape i).memory i.args/\laidMetH Tryz.prog UB (w.forCall tape i).memory)/\sizedMet enc Tryz.prog fn (ak s) false (w.forCall tape i).memory i.args)/\({}:Assume).holds Tryz.prog (lone (Frame.enter Tryz.prog k i.args .normal) [] (w.forCall tape i)))
  (body:∀(W:World) (base:Nat) (args:Array Value) (ds:List (DataW H)) (ps:List MemPlace),(∀(j:Nat) t v,fn.params[j]?=some t->args[j]?=some v->Value.okWide Tryz.prog W .any base t v) ->
   aa enc Tryz.prog W 0 (λ_=>true) true fn.params.toList args.toList ds ps->Fits (Ev W) W->JC (Ev W)->Qe Tryz.prog k args.toList W (Ev W) (.bool true)) :
  ReturnsInHanded {} Tryz.checked os k .any (λw args=>(s.pre enc Tryz.prog fn [] false w args/\laidMetH Tryz.prog UB w)/\sizedMet enc Tryz.prog fn (ak s) false w args) (s.post enc Tryz.prog fn false true false false):=by
 refine returnsInHanded_of_calls (C:=Tryz.checked) kE started hin witness ?_
 intro w tape i _ hsh _ hok hpre _
 obtain⟨_,_,_,fn',hfn',_,_,_,_,hval⟩:=hok
 obtain rfl:fn'=fn:=ag (hfn'.symm.trans hfn)
 obtain⟨⟨⟨ds,gs,before,hw,hc⟩,hx⟩,hz⟩:=hpre
 have hw:=DataW.Whole.of_heap (w':=w.forCall tape i) wc hw
 have hx:laidMetH Tryz.prog UB (w.forCall tape i):=hx.of_heap wc
 revert hval hw hx hsh
 generalize w.forCall tape i=W
 generalize i.args=args
 intro hsh hval hw hx
 have hW:=hw
 obtain⟨p,q,hA,hV,rfl,hfz,hnd⟩:=hw
 rw[hv]at hV
 obtain⟨rfl,rfl⟩:=zS hV
 simp only[ae]at hW
 obtain⟨_,hb⟩:=body W w.heap.size args ds p hval hA (O2 W) (O1 hsh hx)
 refine hb.mono λe W' h=>?_
 obtain⟨c,F',rfl,he,_⟩:=h
 have hbel:Below W.heap.size W W':=he.toBelow
 have hlt:∀x∈p,x.block<W.heap.size:=λx hx=>hW.lt x hx
 have hres:∀(b:Nat) (sp:Nat->Bool) (hd:Bool),aa enc Tryz.prog W' b sp hd fn'.resultTypes.toList ((Value.bool true).resultList fn'.resultTypes.size) [.lit (.bool true)] []:=λb sp hd=>by
  rw[hr];exact trodAll_mk1 (shut_bool QDg true)
 have hstay:aa enc Tryz.prog W' 0 (λb=>decide (b<W.heap.size)) true fn'.params.toList args.toList ds p :=
  RR Fy hbel (λt ht=>by have:=List.all_eq_true.1 hp t ht;simpa using this) hA hlt
 have hS:s.fn H ds={ results:=[.lit (.bool true)],args:=ds }:=hs ds (by simpa using TZ hA)
 refine ChangeSpec.post_blind (v:=.bool true) ⟨ds,[],p,[],p,[],hW,?_,?_,?_,hbel.frame _,λh=>by cases h⟩
 ·simp only[ae,hS];exact hres _ _ _
 ·simp only[ae,hS];exact hstay
 ·simp only[ae,hS,hv];rfl
end
section
open Go.RowKit Go.ChangeShapes Go.WideShapes Ig
theorem QFw:Tryz.prog.underlying 3=some (.int .i64):=y0
theorem QFv:Tryz.prog.underlying 22=some .string:=y0
theorem QAe(os:Os)(args:Array Value):laidMetH Tryz.prog UB ((World.doorLaid Tryz.prog 4000 os).forCall (λ_ _=>0) ⟨#[],args,[]⟩).memory :=
 laidMetH_of_parts3 (fuel:=8) (laidMet_of_run' 8 y0 y0) y0 y0
theorem KO{a b:Bool}(h:a=true)(k:b=true):(a&&b)=true:=by rw[h,k];rfl
theorem QCi:laidOutB Tryz.checked.prog=true:=Fy
theorem QCe:mapsRowed Tryz.checked.prog=true:=y0
theorem QCj:(Rows.encloseGridsRow.plainKeys==Tryz.checked.prog.plainKeys)=true:=y0
theorem QAI:Tryz.checked.prog.stopsHeard=true:=y0
theorem QAJ:Tryz.checked.prog.mayEnter=true:=y0
theorem QCh:(Rows.encloseGridsRow.lifted==Tryz.checked.prog.liftsFinal)=true:=y0
theorem QCf:(Tryz.checked.prog.make==some Rows.encloseGridsRow.make)=true:=y0
theorem QCg:Tryz.checked.prog.mainIs=some (true, "cf78c4e6c1ac7b9d94aed50302f1e7380b4c017140f2ae4993d9de171b50ee1d".toList):=y0
theorem QAH:true=Tryz.checked.prog.looks []:=y0
theorem QHm:false=Rows.encloseGridsRow.goesBy Tryz.checked.prog:=y0
end
end Go.Proofs.YtjcphjpkimmmjaaGreatDoor
