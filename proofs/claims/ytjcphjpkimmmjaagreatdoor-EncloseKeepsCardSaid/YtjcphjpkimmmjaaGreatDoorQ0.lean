/- Steps of the proof of the theorem in the last file. -/
import Derived.Test.YtjcphjpkimmmjaaGreatDoorP4
import Derived.Test.YtjcphjpkimmmjaaGreatDoorRows
import Derived.ProofKit
import Derived.Carry
import Derived.LaidMore
import Derived.HandedShaped
import Derived.Lib.SmallJoins
import Derived.Stop.Joined
import Derived.Shelf.Vars
import Derived.OpenShut
import Derived.Test.YtjcphjpkimmmjaaGreatDoorCards
import Derived.SevenTiedAt
set_option linter.all false
set_option maxHeartbeats 4000000
open Go.Proofs.Tryz
open Go.DataW renaming TrodAll → aa,trod → aq
open List renaming getElem?_eq_getElem → ab,append_nil → ae,getElem?_map → ah,getElem?_eq_none → aj,mem_cons_self → ar
open Option.some renaming injEq → af,inj → ag
open Array renaming getElem?_eq_none → ai
open Go.OpenSpec renaming ofChange → ak
open Go.Lib renaming pow10Tab → ao
open Prod.mk renaming injEq → au
open Go.Value renaming okWide → av
namespace Go.Proofs.YtjcphjpkimmmjaaGreatDoor
variable{H:Type}{w:World}{sp:Nat->Bool}
section
open Go.RowKit Go.ChangeShapes Go.WideShapes Ig
def Vx(w:World):Gs:=λb=>match w.heap[b]? with
 |some (.cells c T _)=>some (c,T)
 |_=>none
def Lw(w:World):Fits (Vx w) w:=by
 refine⟨λb c T h=>?_,λb c fr h=>?_⟩
 ·unfold Vx at h;split at h
  ·rename_i c' T' fr e;simp only[af,au]at h;obtain⟨rfl,rfl⟩:=h;exact⟨fr,e⟩
  cases h
 unfold Vx;rw[h]
def TH:List (String×DataW Unit):=Rows.encloseGridsRow.laid
theorem zK:ownKnob prog.godebug=none:=tE
theorem QFK:prog.globalNamed "internal/strconv.uint64pow10" = some 5:=tE
theorem Po(f:laidOutB prog=true){H:Type}{enc:TypeId×Value->H}{W g:World}(hb:Below W.heap.size W g):∀ {ts:List TypeId} {vs:List Value} {ds:List (DataW H)} {ps:List MemPlace},
  (∀t∈ts,prog.readableRec t=true/\t<prog.types.size)->aa enc prog W 0 (λ_=>true) true ts vs ds ps->(∀x∈ps,x.block<W.heap.size) ->
  aa enc prog g 0 (λb=>decide (b<W.heap.size)) true ts vs ds ps
 |[],_,_,_,_,h,_=>by
  obtain⟨rfl,rfl,rfl⟩:=trodAll_nil h;exact(rfl:([]:List MemPlace)=[])
 |t::ts,_,_,_,ht,h,c=>by
  obtain⟨v,i,d,l,a,b,rfl,rfl,rfl,h1,h2⟩:=trodAll_cons h;exact trodAll_cons_mk (Below.trod f (ht t (ar ..)).1 (ht t (ar ..)).2 h1 hb λx hx=>c x (List.mem_append_left _ hx))
   (Po f hb (λj k=>ht j (List.mem_cons_of_mem _ k)) h2 λx hx=>c x (List.mem_append_right _ hx))
theorem QHH:(prog.globals[5]?).map (·.type)=some 390:=tE
theorem QHC:prog.underlying 390=some (.array 20 297):=tE
theorem QHq:prog.cellsOf 297=1:=tE
theorem QFa:prog.cellsOf 390=20:=tE
theorem QHD:prog.underlying 297=some (.int .u64):=tE
def Lq{α:Type}{a b:List α}(h1:a.length=20)(h2:b.length=20)(h:∀i,i<20->a[i]?=b[i]?):a=b:=by
 apply List.ext_getElem?;intro i;rcases Nat.lt_or_ge i 20 with k | k
 ·exact h i k
 rw[aj O,aj O]
def qB:Rows.laid_internal_strconv_uint64pow10 (H:=Unit) = .agg (Lib.pow10Tab.map λz=>.lit (.int .u64 z)):=by
 unfold Rows.laid_internal_strconv_uint64pow10 ao;congr 1
theorem gv{enc:TypeId×Value->H}{fuel:Nat}{cs:List Value}{p:List MemPlace}(h:aq enc prog w 0 (λ_=>true) false fuel 390 cs=some (.agg (Lib.pow10Tab.map λz=>.lit (.int .u64 z)),p)):cs=Lib.pow10Tab.map λz=>Value.int .u64 z:=by
 obtain⟨g,m,rfl,hx,j,l,c⟩:=DataW.trod_array QHC h;rw[QFa]at j;simp only[au,DataW.agg.injEq]at hx;refine Lq j (by simp[ao]) λi hi=>?_;have e:=c i hi;rw[QHq,Nat.mul_one]at e;have a:i<g.length:=O;rw[ab a]at e;obtain⟨z,f,k,_⟩:=DataW.trod_int QHD e;have b:i<cs.length:=O;rw[List.drop_eq_getElem_cons b]at f;simp only[List.take_succ_cons,List.take_zero,List.cons.injEq,and_true]at f;rw[ab b,f];have h3:(g.map (·.1))[i]?=some (.lit (.int .u64 z)):=by rw[ah,ab a,k];rfl
 rw[<-hx.1,ah]at h3;rw[ah];cases hp:ao[i]? with
 |none=>rw[hp]at h3;cases h3
 |some y =>
  rw[hp]at h3;simp only[Option.map_some,af,DataW.lit.injEq,Lit.int.injEq,true_and]at h3;rw[h3];rfl
theorem Lv(hs:w.ShapedOpen prog)(hl:laidMetH prog TH w):JE (Vx w):=by
 refine⟨?_,?_⟩
 ·obtain⟨m,hm⟩:=cell_of_shapedOpen_int (P:=prog) (g:=0) (t:=3) (zero:=#[.int .i64 0]) (k:=.i64) hs tG tE rfl tE tE tE;obtain⟨cs,hh,hsz,_⟩:=hs.1 0 #[.int .i64 0] 3 tG tE;have h1:cs.size=1:=hsz;refine⟨m,3,?_⟩;unfold Vx;rw[hh];simp only[World.cell?,hh]at hm;have:cs=#[.int .i64 m]:=by
   apply Array.ext_getElem?;intro i
   match i with
   |0=>simpa using hm
   |i+1=>rw[ai O,ai tJ]
  rw[this]
 rw[MakeChecks.laidMetH_plain _ _ _ tE]at hl;obtain⟨ps,⟨g0,t0,cs0,f0,p0,q0,hg0,ht0,hv0,hd0,⟨g1,t1,cs1,f1,p1,q1,hg1,ht1,hv1,hd1,⟨g2,t2,cs2,f2,p2,q2,hg2,ht2,hv2,hd2,_,_⟩,_⟩,_⟩,_,_⟩:=hl;obtain rfl:=ag (QFK.symm.trans hg2);obtain rfl:=ag (QHH.symm.trans ht2);have hd2':aq _ prog w 0 _ false f2 390 cs2.toList=some (Rows.laid_internal_strconv_uint64pow10 (H:=Unit),p2):=hd2;rw[qB]at hd2';have e:=gv hd2';unfold World.var? at hv2;rw[QFK]at hv2;simp only[Option.bind_some]at hv2;unfold Vx;split at hv2
 ·rename_i c T fr hc;simp only[af]at hv2;subst hv2;rw[hc];exact⟨T,by rw[<-e]⟩
 cases hv2
theorem Sb{enc:TypeId×Value->H}{base:Nat}{c:Bool}:∀ {ts:List TypeId} {vs:List Value} {ds:List (DataW H)} {ps:List MemPlace},aa enc prog w base sp c ts vs ds ps->ds.length=ts.length
 |[],_,_,_,h=>by obtain⟨rfl,rfl,rfl⟩:=trodAll_nil h;rfl
 |_::_,_,_,_,h=>by
  obtain⟨v,f,d,g,a,b,rfl,rfl,rfl,h1,h2⟩:=trodAll_cons h;simp[Sb h2]
theorem jr{enc:TypeId×Value->H}{a:List (DataW H)}{ps:List MemPlace}(h:DataW.TrodVars enc prog w sp [] a ps):a=[]/\ps=[]:=by
 cases a with
 |nil=>exact⟨rfl,h⟩
 |cons g r=>exact absurd h (by intro h;cases h)
theorem QEP:prog.underlying 4=some .bool:=tE
theorem Ae:laidOutB prog=true:=tE
set_option maxRecDepth 100000 in
theorem z8{k:FuncId}{fn:Func}{s:ChangeSpec}(os:Os)(f:os.Started){H:Type}(enc:TypeId×Value->H)(G:prog.funcs[k]?=some fn)(F:prog.inits.idxOf? k=none)
  (N:s.vars=[]) (Q:∀ds:List (DataW H),ds.length=fn.params.size->s.fn H ds={ results:=[.lit (.bool true)],args:=ds }) (hr:fn.resultTypes=#[4])
  (hp:(fn.params.toList.all λt=>prog.readableRec t&&decide (t<prog.types.size))=true)
  (a:∃(w:World) (tape:Tape) (i:Input),w.os=os/\(w.forCall tape i).Shaped prog/\i.vars=[]/\Input.okWide prog (w.forCall tape i) .any w.heap.size k i /\
   ((s.pre enc prog fn [] false (w.forCall tape i).memory i.args/\laidMetH prog TH (w.forCall tape i).memory)/\sizedMet enc prog fn (ak s) false (w.forCall tape i).memory i.args)/\({}:Assume).holds prog (lone (Frame.enter prog k i.args .normal) [] (w.forCall tape i)))
  (B:∀(W:World) (base:Nat) (args:Array Value) (ds:List (DataW H)) (ps:List MemPlace),(∀(j:Nat) t v,fn.params[j]?=some t->args[j]?=some v->av prog W .any base t v) ->
   aa enc prog W 0 (λ_=>true) true fn.params.toList args.toList ds ps->Fits (Vx W) W->JE (Vx W)->Qf prog k args.toList W (Vx W) (.bool true)) :
  ReturnsInHanded {} checked os k .any (λw args=>(s.pre enc prog fn [] false w args/\laidMetH prog TH w)/\sizedMet enc prog fn (ak s) false w args) (s.post enc prog fn false true false false):=by
 refine returnsInHanded_of_calls (C:=checked) zK f F a ?_;intro w tape i _ o _ D z _;obtain⟨_,_,_,l,A,_,_,_,_,g⟩:=D;obtain rfl:l=fn:=ag (A.symm.trans G);obtain⟨⟨⟨ds,T,before,u,hc⟩,hx⟩,hz⟩:=z;have u:=DataW.Whole.of_heap (w':=w.forCall tape i) tH u;have hx:laidMetH prog TH (w.forCall tape i):=hx.of_heap tH;revert g u hx o;generalize w.forCall tape i=W;generalize i.args=args;intro o g u hx;have K:=u;obtain⟨p,q,M,P,rfl,S,R⟩:=u;rw[N]at P;obtain⟨rfl,rfl⟩:=jr P;simp only[ae]at K;obtain⟨_,hb⟩:=B W w.heap.size args ds p g M (Lw W) (Lv o hx);refine hb.mono λe W' h=>?_;obtain⟨c,F',rfl,he,_⟩:=h;have m:Below W.heap.size W W':=he.toBelow;have E:∀x∈p,x.block<W.heap.size:=λx hx=>K.lt x hx;have y:∀(b:Nat) (sp:Nat->Bool) (hd:Bool),aa enc prog W' b sp hd l.resultTypes.toList ((Value.bool true).resultList l.resultTypes.size) [.lit (.bool true)] []:=λb sp hd=>by
  rw[hr];exact trodAll_mk1 (shut_bool QEP true)
 have n:aa enc prog W' 0 (λb=>decide (b<W.heap.size)) true l.params.toList args.toList ds p :=
  Po Ae m (λt ht=>by have:=List.all_eq_true.1 hp t ht;simpa using this) M E
 have L:s.fn H ds={ results:=[.lit (.bool true)],args:=ds }:=Q ds (by simpa using Sb M);refine ChangeSpec.post_blind (v:=.bool true) ⟨ds,[],p,[],p,[],K,?_,?_,?_,m.frame _,λh=>by cases h⟩
 ·simp only[ae,L];exact y _ _ _
 ·simp only[ae,L];exact n
 simp only[ae,L,N];rfl
end
section
open Go.RowKit Go.ChangeShapes Go.WideShapes Ig
theorem QGy:prog.underlying 3=some (.int .i64):=tE
theorem jD:prog.underlying 22=some .string:=tE
theorem QAB(os:Os)(args:Array Value):laidMetH prog TH ((World.doorLaid prog 4000 os).forCall (λ_ _=>0) ⟨#[],args,[]⟩).memory :=
 laidMetH_of_parts3 (fuel:=8) (laidMet_of_run' 8 tE tE) tE tE
theorem LG{enc:TypeId×Value->H}{base:Nat}{a:Bool}{n:Nat}{t:TypeId}{v:Value}{x:DataW H×List MemPlace}(ht:prog.underlying t=some .string)(h:aq enc prog w base sp a n t [v]=some x):∃l,v=tx l:=by
 obtain⟨s,e,_⟩:=DataW.trod_string ht h;obtain⟨rfl⟩:=List.cons.inj e;exact⟨s.data.toList,by simp[tx]⟩
set_option maxRecDepth 100000 in
theorem vV{enc:TypeId×Value->H}{b:Nat}{v:Value}{d:DataW H}{p:List MemPlace}(a:av prog w .any b 40 v)(h:DataW.Trod enc prog w 0 (λ_=>true) true 40 v d p):∃lo hi,v = .agg #[tx lo,tx hi]:=by
 obtain⟨v0,v1,f,c,n,rfl,_,_,h0,h1⟩:=Joins.open_agg2 underlying40 tE tE a h;obtain⟨lo,rfl⟩:=LG jD h0;obtain⟨hi,rfl⟩:=LG jD h1;exact⟨lo,hi,rfl⟩
def Y1{a b:Bool}(h:a=true)(k:b=true):(a&&b)=true:=by rw[h,k];rfl
def QC1:laidOutB checked.prog=true:=Ae
def QCx:mapsRowed checked.prog=true:=tE
def QC2:(Rows.encloseGridsRow.plainKeys==checked.prog.plainKeys)=true:=tE
def cG:checked.prog.stopsHeard=true:=tE
def cH:checked.prog.mayEnter=true:=tE
def QC0:(Rows.encloseGridsRow.lifted==checked.prog.liftsFinal)=true:=tE
def QCy:(checked.prog.make==some Rows.encloseGridsRow.make)=true:=tE
def QCz:checked.prog.mainIs=some (true, "cf78c4e6c1ac7b9d94aed50302f1e7380b4c017140f2ae4993d9de171b50ee1d".toList):=tE
def cF:true=checked.prog.looks []:=tE
def QIg:false=Rows.encloseGridsRow.goesBy checked.prog:=tE
end
end Go.Proofs.YtjcphjpkimmmjaaGreatDoor
