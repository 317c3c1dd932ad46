/- Steps of the proof of the theorem in the last file. -/
import Derived.Test.YtknegjaeoffnbaaGreatDoorR3
import Derived.Test.YtknegjaeoffnbaaGreatDoorRows
import Derived.ProofKit
import Derived.Carry
import Derived.LaidMore
import Derived.HandedShaped
import Derived.Lib.SmallJoins
import Derived.Stop.Joined
import Derived.Shelf.Vars
import Derived.OpenShut
import Derived.Test.YtknegjaeoffnbaaGreatDoorCards
import Derived.SevenTiedAt
set_option linter.all false
set_option maxHeartbeats 4000000
open Go.DataW renaming TrodAll → aa,trod → av
open List renaming getElem?_eq_getElem → ab,append_nil → ae,getElem?_map → aj,getElem?_eq_none → aq,mem_cons_self → aw
open Option.some renaming injEq → af,inj → ah
open Go renaming Value → ag,TypeId → ai,World → ak
open Array renaming getElem?_eq_none → ao
open Go.OpenSpec renaming ofChange → ar
open Go.Lib renaming pow10Tab → au
open Prod.mk renaming injEq → ax
open Go.Value renaming okWide → ay
namespace Go.Proofs.YtknegjaeoffnbaaGreatDoor
section
open Go.RowKit Go.ChangeShapes Go.WideShapes Ig
def Wp (w:ak):Gs:=fun b=>match w.heap[b]? with
 |some (.cells c T _)=>some (c,T)
 |_=>none
theorem Ah (w:ak):Fits (Wp w) w:=by
 refine⟨fun b c T h=>?_,fun b c fr h=>?_⟩
 ·unfold Wp at h
  split at h
  ·rename_i c' T' fr e
   simp only [af,ax] at h
   obtain ⟨rfl,rfl⟩:=h
   exact⟨fr,e⟩
  ·cases h
 ·unfold Wp;rw [h]
def P9:List (String×DataW Unit):=Rows.exactGridsRow.laid
theorem Oz:ownKnob Tryz.prog.godebug=none:=by kernel_rfl
theorem dm:Tryz.prog.globalNamed "internal/strconv.uint64pow10" = some 5:=by kernel_rfl
theorem Mv (hl:laidOutB Tryz.prog=true) {H:Type} {enc:ai×ag→H} {W W':ak} (hb:Below W.heap.size W W'):∀ {ts:List ai} {vs:List ag} {ds:List (DataW H)} {ps:List MemPlace},
  (∀ t∈ts,Tryz.prog.readableRec t=true∧t<Tryz.prog.types.size)→aa enc Tryz.prog W 0 (fun _=>true) true ts vs ds ps→(∀ x∈ps,x.block<W.heap.size) →
  aa enc Tryz.prog W' 0 (fun b=>decide (b<W.heap.size)) true ts vs ds ps
 |[],_,_,_,_,h,_=>by
  obtain ⟨rfl,rfl,rfl⟩:=trodAll_nil h
  exact(rfl:([]:List MemPlace)=[])
 |t::ts,_,_,_,ht,h,hlt=>by
  obtain ⟨v,vs1,d,ds1,a,b,rfl,rfl,rfl,h1,h2⟩:=trodAll_cons h
  exact trodAll_cons_mk (Below.trod hl (ht t (aw ..)).1 (ht t (aw ..)).2 h1 hb (fun x hx=>hlt x (List.mem_append_left _ hx)))
   (Mv hl hb (fun t' h'=>ht t' (List.mem_cons_of_mem _ h')) h2 (fun x hx=>hlt x (List.mem_append_right _ hx)))
theorem cG:(Tryz.prog.globals[5]?).map (·.type)=some 332:=by kernel_rfl
theorem cD:Tryz.prog.underlying 332=some (.array 20 248):=by kernel_rfl
theorem cr:Tryz.prog.cellsOf 248=1:=by kernel_rfl
theorem pH:Tryz.prog.cellsOf 332=20:=by kernel_rfl
theorem cE:Tryz.prog.underlying 248=some (.int .u64):=by kernel_rfl
theorem Ac {α:Type} {a b:List α} (h1:a.length=20) (h2:b.length=20) (h:∀ i,i<20→a[i]?=b[i]?):a=b:=by
 apply List.ext_getElem?
 intro i
 rcases Nat.lt_or_ge i 20 with k | k
 ·exact h i k
 ·rw [aq (by omega),aq (by omega)]
theorem IV:Rows.laid_internal_strconv_uint64pow10 (H:=Unit) = .agg (Lib.pow10Tab.map fun z=>.lit (.int .u64 z)):=by
 unfold Rows.laid_internal_strconv_uint64pow10 au
 congr 1
theorem q9 {H:Type} {enc:ai×ag→H} {w:ak} {fuel:Nat} {cs:List ag} {p:List MemPlace} (h:av enc Tryz.prog w 0 (fun _=>true) false fuel 332 cs=some (.agg (Lib.pow10Tab.map fun z=>.lit (.int .u64 z)),p)):cs=Lib.pow10Tab.map fun z=>Value.int .u64 z:=by
 obtain ⟨xs,m,rfl,hx,hl,hn,hel⟩:=DataW.trod_array cD h
 rw [pH] at hl
 simp only [ax,DataW.agg.injEq] at hx
 refine Ac hl (by simp [au]) fun i hi=>?_
 have e:=hel i hi
 rw [cr,Nat.mul_one] at e
 have hix:i<xs.length:=by omega
 rw [ab hix] at e
 obtain ⟨z,e1,e2,_⟩:=DataW.trod_int cE e
 have hil:i<cs.length:=by omega
 rw [List.drop_eq_getElem_cons hil] at e1
 simp only [List.take_succ_cons,List.take_zero,List.cons.injEq,and_true] at e1
 rw [ab hil,e1]
 have h3:(xs.map (·.1))[i]?=some (.lit (.int .u64 z)):=by rw [aj,ab hix,e2];rfl
 rw [← hx.1,aj] at h3
 rw [aj]
 cases hp:au[i]? with
 |none=>rw [hp] at h3;cases h3
 |some y =>
  rw [hp] at h3
  simp only [Option.map_some,af,DataW.lit.injEq,Lit.int.injEq,true_and] at h3
  rw [h3];rfl
theorem Ag {w:ak} (hs:w.ShapedOpen Tryz.prog) (hl:laidMetH Tryz.prog P9 w):JB (Wp w):=by
 refine⟨?_,?_⟩
 ·obtain ⟨m,hm⟩:=cell_of_shapedOpen_int (P:=Tryz.prog) (g:=0) (t:=3) (zero:=#[.int .i64 0]) (k:=.i64) hs (by decide +kernel) (by kernel_rfl) rfl (by kernel_rfl) (by kernel_rfl) (by kernel_rfl)
  obtain ⟨cs,hh,hsz,_⟩:=hs.1 0 #[.int .i64 0] 3 (by decide +kernel) (by kernel_rfl)
  have h1:cs.size=1:=hsz
  refine⟨m,3,?_⟩
  unfold Wp
  rw [hh]
  simp only [World.cell?,hh] at hm
  have:cs=#[.int .i64 m]:=by
   apply Array.ext_getElem?
   intro i
   match i with
   |0=>simpa using hm
   |i+1=>rw [ao (by omega),ao (by simp)]
  rw [this]
 ·rw [MakeChecks.laidMetH_plain _ _ _ (by kernel_rfl)] at hl
  obtain ⟨ps,⟨g0,t0,cs0,f0,p0,q0,hg0,ht0,hv0,hd0,⟨g1,t1,cs1,f1,p1,q1,hg1,ht1,hv1,hd1,⟨g2,t2,cs2,f2,p2,q2,hg2,ht2,hv2,hd2,_,_⟩,_⟩,_⟩,_,_⟩:=hl
  obtain rfl:=ah (dm.symm.trans hg2)
  obtain rfl:=ah (cG.symm.trans ht2)
  have hd2':av _ Tryz.prog w 0 _ false f2 332 cs2.toList=some (Rows.laid_internal_strconv_uint64pow10 (H:=Unit),p2):=hd2
  rw [IV] at hd2'
  have e:=q9 hd2'
  unfold World.var? at hv2
  rw [dm] at hv2
  simp only [Option.bind_some] at hv2
  unfold Wp
  split at hv2
  ·rename_i c T fr hc
   simp only [af] at hv2
   subst hv2
   rw [hc]
   exact⟨T,by rw [← e]⟩
  ·cases hv2
theorem Pe {H:Type} {enc:ai×ag→H} {w:ak} {base:Nat} {sp:Nat→Bool} {held:Bool}:∀ {ts:List ai} {vs:List ag} {ds:List (DataW H)} {ps:List MemPlace},aa enc Tryz.prog w base sp held ts vs ds ps→ds.length=ts.length
 |[],_,_,_,h=>by obtain ⟨rfl,rfl,rfl⟩:=trodAll_nil h;rfl
 |_::_,_,_,_,h=>by
  obtain ⟨v,vs1,d,ds1,a,b,rfl,rfl,rfl,h1,h2⟩:=trodAll_cons h
  simp [Pe h2]
theorem Lu {H:Type} {enc:ai×ag→H} {w:ak} {sp:Nat→Bool} {gs:List (DataW H)} {ps:List MemPlace} (h:DataW.TrodVars enc Tryz.prog w sp [] gs ps):gs=[]∧ps=[]:=by
 cases gs with
 |nil=>exact⟨rfl,h⟩
 |cons g r=>exact absurd h (by intro h;cases h)
theorem gX:Tryz.prog.underlying 4=some .bool:=by kernel_rfl
theorem TJ:laidOutB Tryz.prog=true:=by kernel_rfl
set_option maxRecDepth 100000 in
theorem CJ {k:FuncId} {fn:Func} {s:ChangeSpec} (os:Os) (started:os.Started) {H:Type} (enc:ai×ag→H) (hfn:Tryz.prog.funcs[k]?=some fn) (hin:Tryz.prog.inits.idxOf? k=none)
  (hv:s.vars=[]) (hs:∀ ds:List (DataW H),ds.length=fn.params.size→s.fn H ds={ results:=[.lit (.bool true)],args:=ds }) (hr:fn.resultTypes=#[4])
  (hp:(fn.params.toList.all fun t=>Tryz.prog.readableRec t&&decide (t<Tryz.prog.types.size))=true)
  (witness:∃ (w:ak) (tape:Tape) (i:Input),w.os=os∧(w.forCall tape i).Shaped Tryz.prog∧i.vars=[]∧Input.okWide Tryz.prog (w.forCall tape i) .any w.heap.size k i ∧
   ((s.pre enc Tryz.prog fn [] false (w.forCall tape i).memory i.args∧laidMetH Tryz.prog P9 (w.forCall tape i).memory)∧sizedMet enc Tryz.prog fn (ar s) false (w.forCall tape i).memory i.args)∧({}:Assume).holds Tryz.prog (lone (Frame.enter Tryz.prog k i.args .normal) [] (w.forCall tape i)))
  (body:∀ (W:ak) (base:Nat) (args:Array ag) (ds:List (DataW H)) (ps:List MemPlace),(∀ (j:Nat) t v,fn.params[j]?=some t→args[j]?=some v→ay Tryz.prog W .any base t v) →
   aa enc Tryz.prog W 0 (fun _=>true) true fn.params.toList args.toList ds ps→Fits (Wp W) W→JB (Wp W)→QZ Tryz.prog k args.toList W (Wp W) (.bool true)) :
  ReturnsInHanded {} Tryz.checked os k .any (fun w args=>(s.pre enc Tryz.prog fn [] false w args∧laidMetH Tryz.prog P9 w)∧sizedMet enc Tryz.prog fn (ar s) false w args) (s.post enc Tryz.prog fn false true false false):=by
 refine returnsInHanded_of_calls (C:=Tryz.checked) Oz started hin witness ?_
 intro w tape i _ hsh _ hok hpre _
 obtain ⟨_,_,_,fn',hfn',_,_,_,_,hval⟩:=hok
 obtain rfl:fn'=fn:=ah (hfn'.symm.trans hfn)
 obtain ⟨⟨⟨ds,gs,before,hw,hc⟩,hx⟩,hz⟩:=hpre
 have hw:=DataW.Whole.of_heap (w':=w.forCall tape i) (by rfl) hw
 have hx:laidMetH Tryz.prog P9 (w.forCall tape i):=hx.of_heap (by rfl)
 revert hval hw hx hsh
 generalize w.forCall tape i=W
 generalize i.args=args
 intro hsh hval hw hx
 have hW:=hw
 obtain ⟨p,q,hA,hV,rfl,hfz,hnd⟩:=hw
 rw [hv] at hV
 obtain ⟨rfl,rfl⟩:=Lu hV
 simp only [ae] at hW
 obtain ⟨_,hb⟩:=body W w.heap.size args ds p hval hA (Ah W) (Ag hsh hx)
 refine hb.mono fun e W' h=>?_
 obtain ⟨c,F',rfl,he,_⟩:=h
 have hbel:Below W.heap.size W W':=he.toBelow
 have hlt:∀ x∈p,x.block<W.heap.size:=fun x hx=>hW.lt x hx
 have hres:∀ (b:Nat) (sp:Nat→Bool) (hd:Bool),aa enc Tryz.prog W' b sp hd fn'.resultTypes.toList ((Value.bool true).resultList fn'.resultTypes.size) [.lit (.bool true)] []:=fun b sp hd=>by
  rw [hr];exact trodAll_mk1 (shut_bool gX true)
 have hstay:aa enc Tryz.prog W' 0 (fun b=>decide (b<W.heap.size)) true fn'.params.toList args.toList ds p :=
  Mv TJ hbel (fun t ht=>by have:=List.all_eq_true.1 hp t ht;simpa using this) hA hlt
 have hS:s.fn H ds={ results:=[.lit (.bool true)],args:=ds }:=hs ds (by simpa using Pe hA)
 refine ChangeSpec.post_blind (v:=.bool true) ⟨ds,[],p,[],p,[],hW,?_,?_,?_,hbel.frame _,fun h=>by cases h⟩
 ·simp only [ae,hS];exact hres _ _ _
 ·simp only [ae,hS];exact hstay
 ·simp only [ae,hS,hv];rfl
end
section
open Go.RowKit Go.ChangeShapes Go.WideShapes Ig
theorem uq:Tryz.prog.underlying 3=some (.int .i64):=by kernel_rfl
theorem C4:Tryz.prog.underlying 22=some .string:=by kernel_rfl
theorem zU (os:Os) (args:Array ag):laidMetH Tryz.prog P9 ((World.doorLaid Tryz.prog 4000 os).forCall (fun _ _=>0) ⟨#[],args,[]⟩).memory :=
 laidMetH_of_parts3 (fuel:=8) (laidMet_of_run' 8 (by kernel_rfl) (by kernel_rfl)) (by kernel_rfl) (by kernel_rfl)
theorem L9 {H:Type} {enc:ai×ag→H} {w:ak} {base:Nat} {sp:Nat→Bool} {held:Bool} {n:Nat} {t:ai} {v:ag} {x:DataW H×List MemPlace} (ht:Tryz.prog.underlying t=some .string) (h:av enc Tryz.prog w base sp held n t [v]=some x):∃ l,v=tx l:=by
 obtain ⟨s,e,_⟩:=DataW.trod_string ht h
 obtain ⟨rfl⟩:=List.cons.inj e
 exact⟨s.data.toList,by simp [tx]⟩
set_option maxRecDepth 100000 in
theorem QAZ {H:Type} {enc:ai×ag→H} {w:ak} {b:Nat} {v:ag} {d:DataW H} {p:List MemPlace} (hv:ay Tryz.prog w .any b 24 v) (h:DataW.Trod enc Tryz.prog w 0 (fun _=>true) true 24 v d p):∃ lo hi,v = .agg #[tx lo,tx hi]:=by
 obtain ⟨v0,v1,y0,y1,n,rfl,_,_,h0,h1⟩:=Joins.open_agg2 Tryz.underlying24 (by kernel_rfl) (by kernel_rfl) hv h
 obtain ⟨lo,rfl⟩:=L9 C4 h0
 obtain ⟨hi,rfl⟩:=L9 C4 h1
 exact⟨lo,hi,rfl⟩
theorem YV {a b:Bool} (h:a=true) (k:b=true):(a&&b)=true:=by rw [h,k];rfl
theorem vD:laidOutB Tryz.checked.prog=true:=TJ
theorem k7:mapsRowed Tryz.checked.prog=true:=by kernel_rfl
theorem vF:(Rows.exactGridsRow.plainKeys==Tryz.checked.prog.plainKeys)=true:=by kernel_rfl
theorem xt:Tryz.checked.prog.stopsHeard=true:=by kernel_rfl
theorem xu:Tryz.checked.prog.mayEnter=true:=by kernel_rfl
theorem vC:(Rows.exactGridsRow.lifted==Tryz.checked.prog.liftsFinal)=true:=by kernel_rfl
theorem vA:(Tryz.checked.prog.make==some Rows.exactGridsRow.make)=true:=by kernel_rfl
theorem vB:Tryz.checked.prog.mainIs=some (true, "0bd04a9777c06c4babd2615d738c4370e7ee42132e89b6db1518d6fd8816c7a6".toList):=by kernel_rfl
theorem xr:true=Tryz.checked.prog.looks []:=by kernel_rfl
theorem QA4:false=Rows.exactGridsRow.goesBy Tryz.checked.prog:=by kernel_rfl
end
end Go.Proofs.YtknegjaeoffnbaaGreatDoor
