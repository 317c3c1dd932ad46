/- Steps of the proof of the theorem in the last file. -/
import Derived.Test.YtogkbhegfnklhaaGreatDoorV0
import Derived.Laws.Externs
import Derived.Lib.Bytealg
import Derived.Lib.Builder
import Derived.Lib.MakeNoZero
import Derived.Below
import Derived.Maps.RangeRun
set_option linter.all false
set_option maxHeartbeats 4000000
open Bool renaming and_eq_true -> aa
open Option.some renaming inj -> ae
open Nat renaming le_of_ble_eq_true -> af,eq_of_beq_eq_true -> ah,le_refl -> aj,beq -> ak,ble -> aq,succ -> aD,le_trans -> aE,ble_eq_true_of_le -> aH,le_succ_of_le -> aR,shiftRight -> aT,mod -> aW,lt_or_ge -> aX
open Option renaming casesOn -> ai
open Go.World renaming putObj_heap_other -> ao,putObj_heap_same -> az,putObj_size -> aC
open Go.Extern renaming findNext -> ar,find -> ax
open UInt8 renaming ofNat -> au
open List renaming all_eq_true -> aw,all_cons -> aV
open Go.Lib renaming indexByte -> ay
open Go.Extern.MathBitsCarry renaming m64 -> aA,three -> aM,pair -> aQ
open Go.Value renaming int -> aB,func -> aY
open Go.Extern.BytealgMakeNoZero renaming makeNoZero -> aF
open Go.Extern.BytealgIndexByte renaming indexByte -> aG
open Go.Fence renaming wide -> aK
open Go.Extern.AbiNoEscape renaming same -> aS
open Go.ChangeMaps renaming setBlock -> aZ
namespace Go.Ev
open Go.RowKit
theorem jE.lt{E:Nat}{β:Be}{h:Tr B}{w:World}:∀ {l:List _},jE E β h w l->∀d∈l,∃D,d={ target:=.collected D,args:=#[] }/\D<w.heap.size
 |_::_,⟨⟨D,F,_,h3,_⟩,k⟩,d,hd=>by
  rcases List.mem_cons.1 hd with rfl | hd
  ·grind
  ·exact k.lt d hd
section
variable{P:Program}{X:Nat->Bool}{N b0:Nat}{lv:Nat}{ih:Ih}{F:Fence}{rf:Bool}
theorem Mv.hid{β:Be}{h:Tr B}{n:Po}{w:World}(k:Ok β h n w)(obj:Obj):Mv lv β h n w β h n (w.alloc obj):=by
 have E:∀ {b:Nat},b<w.heap.size->(w.alloc obj).heap[b]?=w.heap[b]?:=fun {b} hb=>by
  show(w.heap.push obj)[b]?=_;grind
 refine⟨aj _,fun _ _=>rfl,⟨fun q b hb=>?_,k.inj,k.top⟩,rfl,rfl,rfl,trivial,by simp,fun b hb _=>E hb,fun q c p H F _=>⟨q,c,p,H,F,rfl,fun h=>h⟩,fun _ _ h=>h⟩;obtain⟨p,o,g1,K,J⟩:=k.ob q b hb
 grind
theorem pV(hrf:rf=true->F=aK)(hih:IhS P ih){f:Operand}{ps:Array Tmp}{asg body:Code}(hN:LP N (.rangeFunc f ps asg body)=true):CoS P ih rf X N F (.rangeFunc f ps asg body):=by
 intro Q lv b0 m h n β a w r hr s hQ;replace hr:(gu rf<|bd (ev ⟨X,[]⟩ f [] m) fun v=>match v with
  |.f g c=>gu _<|bd (ih _) fun r=>bd (r.h.get n) fun b=>gu _ _
  |_=>none)=some r:=hr
 obtain⟨h1,hr1⟩:=Q9 hr;clear hr;obtain rfl:=hrf h1;obtain⟨v,h2,hr2⟩:=Qc hr1;clear hr1;split at hr2
 ·rename_i g cv;obtain⟨h3,hr3⟩:=Q9 hr2;obtain⟨r1,h4,hr4⟩:=Qc hr3;obtain⟨b,h5,hr5⟩:=Qc hr4;obtain⟨h6,hr6⟩:=Q9 hr5;clear hr2 hr3 hr4 hr5;have h6:=af h6;split at hr6
  ·rename_i m' X' ps' as' bd' hbo;cases ae hr6;obtain⟨lb,l1,l2⟩:=V_f (QAC (RS.start s.sl) s.gl f _ h2);refine wpIn_rangeFunc fun fn _=>?_;obtain⟨r0,hr0⟩:∃r0:Loop,r0={ state:=.ready,pending:=none,fn,tmps:=a.tmps,params:=ps,assign:=asg,body,defers:=w.heap.size }:=⟨_,rfl⟩;have M1:=Mv.hid (lv:=lv) s.ok (.deferred (some []));have hsz1:(w.alloc (.deferred (some []))).heap.size=w.heap.size+1:=by simp
   have M2:=Mv.new (w':=(w.alloc _).alloc _) M1.ok lv lv (x:=.lp m X _ asg body) (sz:=0) (aj _) rfl ⟨rfl,rfl,rfl,trivial⟩
    ⟨r0,rfl,by rw[hr0],by rw[hr0],by rw[hr0],by rw[hr0],by rw[hr0],by rw[hr0];exact s.sl,by rw[hr0];show LP _ _=true;rw[s.sz];exact hN⟩
   have M12:=M1.trans M2;have hbn:=VP β n ⟨(w.alloc (.deferred (some []))).heap.size,0,0⟩;have hvs:Vs (kf β n ⟨(w.alloc (.deferred (some []))).heap.size,0,0⟩) (.y n::cv)=some (.func (.yield (w.heap.size+1)) #[] #[]::lb):=by
    refine Vr ?_ (kL (M12.be s.ok) _ _ l1);show Option.map _ _=_;simp_all
   rcases hih _ _ h4 _ _ _ hvs M2.ok (s.gl.mv M12) (M12.dC lv (aj _) s.lb)with ⟨k1,_⟩ | ⟨k1,k2⟩
   ·simp_all
   have eargs:(aY (.yield (w.heap.size+1)) #[] #[]::lb).toArray=#[.func (.yield (w.heap.size+1)) #[] #[]]++lb.toArray:=by simp
   refine⟨w.heap.size+1,[{ target:=.collected w.heap.size,args:=#[] }],(w.alloc (.deferred (some []))).alloc (.loop r0),{ target:=.fn (.func g) lb.toArray,args:=#[.func (.yield (w.heap.size+1)) #[] #[]] },(w.alloc (.deferred (some []))).alloc (.loop r0),g,
    (aY _ #[] #[]::lb).toArray,(w.alloc _).alloc _,?_,?_,fun _ _=>trivial,?_,fun e=>(by cases e),(callsIn_wide.2 k2).mono ?_⟩
   ·rw[hr0];simp[run_enterLoop_outer]
   ·simp only[resolve,l2];simp[go_sem]
   ·grind[invoke]
   ·rintro e w' ⟨v',β',rfl,g3,M3⟩;obtain⟨p,o,q1,q2,q3⟩:=M3.ok.ob n b h5;have hp:p=⟨(w.alloc (.deferred (some []))).heap.size,0,0⟩:=by
     rw[M3.old n (by simp[Po.n_s]),hbn]at q1;grind
    rw[hbo]at q3;obtain⟨rr,rfl,s1,s2,_⟩:=q3;have hpb:p.ZH=w.heap.size+1:=by grind
    rw[hpb]at q2;have M4:=Mv.gone (w':=w'.putObj (w.heap.size+1) (.loop { rr with state:=.exhausted })) M3.ok h5 q1 h6 (by simp) (fun x hx=>by
     rw[hpb]at hx;show(w'.heap.setIfInBounds _ _)[x]?=_
     grind) ⟨rfl,rfl,rfl,trivial⟩
    have M:=(M12.trans M3).trans M4;have hnone:∀q x p,(h.put (some ⟨.lp m X ps.toList asg body,lv⟩) n).get q=some x->kf β n ⟨(w.alloc (.deferred (some []))).heap.size,0,0⟩ q=some p->p.ZH≠w.heap.size:=fun q x p hq hp'=>by
     rcases Tr.K4 _ hq with ⟨rfl,_⟩ | ⟨hne,hq⟩
     ·grind
     ·rw[BR β _ hne]at hp';have:=s.ok.lt hq hp';omega
    have hsz2:((w.alloc (.deferred (some []))).alloc (.loop r0)).heap.size=w.heap.size+2:=by simp
    refine⟨none,w'.putObj (w.heap.size+1) (.loop { rr with state:=.exhausted }),?_,?_⟩
    ·grind[run_endLoop]
    ·refine hQ β' { a with defers:=[{ target:=.collected w.heap.size,args:=#[] }]++a.defers } _ ⟨s.sl.le (M.be s.ok),s.sz,M.ok,s.gl.mv M,M.dC lv (aj _) s.lb,⟨⟨w.heap.size,rfl,s.b0,?_,fun q x p hq hp' e=>?_,fun d' hd' e=>?_⟩,s.df.mv M⟩,aE s.b0 M.size⟩ M
     ·show(w'.heap.setIfInBounds _ _)[w.heap.size]?=_;rw[Array.getElem?_setIfInBounds_ne (by omega),M3.fr w.heap.size (by omega) fun q x p hq _ hp'=>hnone q x p hq hp'];show((w.heap.push _).push _)[w.heap.size]?=_
      grind
     ·have hq':r1.h.get q=some x:=by
       grind[Tr.K4]
      obtain⟨q0,c0,p0,t1,t2,t3,_⟩:=M3.src q x p hq' hp' (by omega)
      grind
     ·obtain⟨D,e1,e2⟩:=s.df.lt d' hd'
      grind
  trivial
 trivial
theorem QB9(H:OpF P F)(j:rf=true->F=aK)(q:IhS P ih)(c:Code)(k:LP N c=true):CoS P ih rf X N F c:=by
 induction c with
 |skip=>intro Q lv g m h n β a w r b s d;cases ae (show some (⟨.nm,u0,m,h,n⟩:R)=some r from b);exact wpIn_skip (d β a w s (Mv.refl s.ok))
 |region i o J=>grind[QER]
 |seq x y hx p =>
  simp_all[LP,aa,QKy]
 |cond x t e z E =>
  simp_all[LP,aa,QIk]
 |block i x hx=>exact QGh (hx k)
 |loop x hx=>exact QIj (hx k)
 |rangeFunc f ps x y hx p=>grind[pV]
 |exit i=>intro Q lv g m h n β a w r b s d;cases ae (show some (⟨.ex i,u0,m,h,n⟩:R)=some r from b);exact wpIn_exit (d β a w s (Mv.refl s.ok))
 |scope x hx=>exact QGg j (hx k)
 |label l=>intro Q lv g m h n β a w r b s d;cases ae (show some (⟨.nm,u0,m,h,n⟩:R)=some r from b);exact wpIn_label (d β a w s (Mv.refl s.ok))
 |goto l=>intro Q lv g m h n β a w r b;cases b
 |ret=>intro Q lv g m h n β a w r b s d;cases ae (show some (⟨.rt,u0,m,h,n⟩:R)=some r from b);exact wpIn_ret (d β a w s (Mv.refl s.ok))
 |refuse s=>intro Q lv g m h n β a w r b;cases b
end
end Go.Ev
namespace Go.Ev
open Go.RowKit
theorem QAI{N a:Nat}(h:N<=a){d:Option Tmp}(k:dOk N d=true):dOk a d=true:=by
 cases d with
 |none=>rfl
 |some d=>exact aH (aE (af (show aq _ N=true from k)) h)
theorem cO{N b:Nat}(h:N<=b)(c:Code)(a:LP N c=true):LP b c=true:=by
 induction c with
 |skip=>rfl
 |region g d q =>
  have a:(d.toList.all fun o=>dOk N o.dst)=true:=a;show(d.toList.all fun o=>dOk b o.dst)=true
  grind[aw,QAI]
 |seq x y hx i =>
  have a:(LP N x&&LP N y)=true:=a;show(LP b x&&LP b y)=true;simp_all
 |cond x t e k m =>
  have a:(LP N t&&LP N e)=true:=a;show(LP b t&&LP b e)=true;simp_all
 |block g x hx=>exact hx a
 |loop x hx=>exact hx a
 |rangeFunc f ps x y hx i =>
  have a:((ps.toList.all fun p=>dOk N _)&&(LP N x&&LP N y))=true:=a;rw[aa,aa,aw]at a;show((ps.toList.all fun p=>dOk b _)&&(LP b x&&LP b y))=true;rw[hx a.2.1,i a.2.2,List.all_eq_true.2 fun p j=>QAI h (a.1 p j)];rfl
 |exit g=>rfl
 |scope x hx=>exact hx a
 |label l=>rfl
 |goto l=>rfl
 |ret=>rfl
 |refuse s=>rfl
theorem QAQ:∀(l:List A) (k:Nat) (m:Tr A) (t:Nat) (b:A),(p6 l k m).get (po t)=some b->(k<=t/\l[t-k]?=some b)\/((t<k\/k+l.length<=t)/\m.get (po t)=some b)
 |[],k,m,t,b,h=>.inr ⟨by grind,h⟩
 |a::l,k,m,t,b,h=>by
  rcases QAQ l _ _ t b h with ⟨d,c⟩ | ⟨d,c⟩
  ·grind
  ·rcases Tr.K4 _ c with ⟨e,f⟩ | ⟨e,f⟩
   ·have:=QBK e;simp_all
   grind
theorem QDY{X:Nat->Bool}{β:Be}{l:List A}{vs:List Value}(h:Vs β l=some vs)(N:Nat):Sl X β (p6 l 0 .lf) (vs.toArray++Array.replicate (N-vs.toArray.size) undef):=fun t b _ hb=>by
 rcases QAQ l 0 .lf t b hb with ⟨_,a⟩ | ⟨_,a⟩
 ·obtain⟨v,h3,c⟩:=LF h a
  grind
 grind[Tr.pF]
theorem Ok.QKv{β:Be}{h:Tr B}{n:Po}{w:World}(k:Ok β h n w){D:Nat}(H:∀q x p,h.get q=some x->β q=some p->p.ZH≠D)(o:Obj):Ok β h n (w.putObj D o):=by
 refine⟨fun q b hb=>?_,k.inj,k.top⟩;obtain⟨p,E,g1,J,F⟩:=k.ob q b hb;refine⟨p,E,g1,?_,F⟩;show(w.heap.setIfInBounds _ _)[p.ZH]?=_
 grind
theorem Cq{P:Program}{fn:Func}{tmps:Array Value}{R:Ending->World->Prop}{c:Nat}{β:Be}{h:Tr B}{n:Po}:∀ {ds:List _} {w:World},Ok β h n w->jE c β h w ds->c<=w.heap.size ->
  (∀wf,Ok β h n wf->jD w wf->wf.heap.size=w.heap.size->(∀b,b<c->wf.heap[b]?=w.heap[b]?)->(∀b,(∃q x p,h.get q=some x/\β q=some p/\p.ZH=b)->wf.heap[b]?=w.heap[b]?)->∃v,(results fn tmps).run P wf = .ok v wf/\R (.returned v) wf)->LeavesInM aK 0 P fn tmps R ds .returning w
 |[],w,k,_,_,i=>i w k (jD.refl w) rfl (fun _ _=>rfl) (fun _ _=>rfl)
 |d::ds,w,k,⟨⟨D,z,Y,h3,y,t⟩,o⟩,hb,i=>by
  subst z;refine⟨fun e=>(by cases e),.inl ⟨D,_,rfl,run_takeDeferred h3,?_⟩⟩;have g:∀ {l:List Deferred},(∀m∈l,m≠{ target:=.collected D,args:=#[] })->jE c β h w l->jE c β h (w.putObj D (.deferred none)) l:=by
   intro l
   induction l with
   |nil=>exact fun _ _=>trivial
   |cons m l ih =>
    rintro hd ⟨⟨D',K,J,e3,H,F⟩,E⟩;refine⟨⟨D',K,J,?_,H,F⟩,ih (fun x hx=>hd x (by grind)) E⟩;have:D≠D':=by grind
    show(w.heap.setIfInBounds _ _)[D']?=_;simp_all
  refine Cq (k.QKv y _) (g t o) (by simp_all) fun wf X f a3 U L=>i wf X ⟨f.os,f.tape,f.out,f.drawn⟩ (by simp_all) (fun b j=>?_) fun b a=>?_
  ·rw[U b j];show(w.heap.setIfInBounds _ _)[b]?=_
   grind
  ·rw[L b a];obtain⟨q,x,p,g1,g2,rfl⟩:=a;show(w.heap.setIfInBounds _ _)[p.ZH]?=_
   grind
end Go.Ev
namespace Go.Ev
open Go.RowKit
theorem L8{loc m t:Nat}{x:Operand}(h:bit m t=true):bit (orT loc x m) t=true:=by
 unfold orT;split
 ·rw[ZX];split
  ·exact h
  ·rw[FH,h];rfl
 omega
theorem QFk{loc m t:Nat}{x:Option Nat}(h:bit m t=true):bit (orO loc x m) t=true:=by
 unfold orO
 grind[L8]
theorem cM{loc m t:Nat}:∀ {l:List _},bit m t=true->bit (orL loc l m) t=true
 |[],h=>h
 |x::l,h=>L8 (cM h)
theorem cL{m t:Nat}:∀ {l:List Nat},bit m t=true->bit (orN l m) t=true
 |[],h=>h
 |x::l,h=>by
  show bit (Nat.lor (orN l m) _) t=true;rw[FH,cL h];rfl
theorem gW{m t:Nat}:∀ {l:List Nat},t∈l->bit (orN l m) t=true
 |x::l,h=>by
  show bit (Nat.lor (orN l m) _) t=true;rw[FH];rcases List.mem_cons.1 h with rfl | h
  ·grind[p4]
  ·rw[gW h];rfl
theorem vM{a:List Oper}{t:Nat}:∀ {l:List Oper} {loc m:Nat},bit m t=true->bit (outs l a loc m) t=true
 |[],_,_,h=>h
 |o::l,loc,m,h=>by
  refine vM (m:=match vQ a o with | some g=>orO loc g.1 _ | none=>orL loc _ m) ?_
  grind[QFk,cM]
theorem vO{t:Nat}(c:Code):∀ {m:Nat},bit m t=true->bit (need c m) t=true:=by
 induction c with
 |skip=>exact fun h=>h
 |region e g j=>exact fun h=>vM h
 |seq x y hx d=>exact fun h=>d (hx h)
 |cond x a b i hb=>exact fun h=>L8 (hb (i h))
 |block e x hx=>trivial
 |loop x hx=>trivial
 |rangeFunc f ps x y hx d=>exact fun h=>L8 (cL (d (hx h)))
 |exit e=>exact fun h=>h
 |scope x hx=>trivial
 |label l=>exact fun h=>h
 |goto l=>exact fun h=>h
 |ret=>exact fun h=>h
 |refuse s=>exact fun h=>h
end Go.Ev
namespace Go.Ev
open Go.RowKit
def QDi(tmps:Array Value):ResultVar->Sem Value
 |.tmp t=>pure (tmps.getD t undef)
 |.cell a t=>do loadVar t (<-asAddr (tmps.getD a undef))
section
variable{P:Program}{X:Nat->Bool}{β:Be}{h:Tr B}{w:World}{m:Tr A}{tmps:Array Value}
theorem QCw(hm:Ob β h w)(d:Sl X β m tmps):∀ {rs:List _} {vs:List A},(∀t∈rsL rs,X t=true)->IL P rs m h=some vs ->
  ∃us,Vs β vs=some us/\(rs.mapM (QDi tmps)).run P w = .ok us w
 |[],vs,_,e=>by cases ae e;exact⟨[],rfl,rfl⟩
 |r::rs,vs,f,e=>by
  obtain⟨a,i,z⟩:=Qc (show bd _ (fun v=>bd _ fun l=>some _)=some vs from e);obtain⟨l,h3,y⟩:=Qc z;cases ae y;obtain⟨us,g1,J⟩:=QCw hm d (fun t H=>f t (by grind[rsL,List.mem_cons_of_mem])) h3;have one:∃v,V β a=some v/\(QDi tmps r).run P w = .ok v w:=by
   cases r with
   |tmp t =>
    obtain⟨v,c,g⟩:=d t a (f t (by simp[rsL])) i;simp_all[QDi]
   |cell t T =>
    obtain⟨b,j,x⟩:=Qc i;obtain⟨q,o,h7⟩:=Qc x;obtain⟨v,c,g⟩:=d t b (f t (by simp[rsL])) j;rw[A.jC o]at c;obtain⟨p,k,rfl⟩:=vB c;obtain⟨u,F,E⟩:=cR hm h7 k;simp_all[QDi,asAddr]
  obtain⟨v,c,g⟩:=one;refine⟨v::us,Vr c g1,?_⟩;simp_all
theorem QLm{vs:List A}{us:List Value}(h:Vs β vs=some us):V β (one vs)=some (if h:us.toArray.size=1 then us.toArray[0]else .tuple us.toArray):=by
 match vs,us,h with
 |[],us,h=>cases ae h;rfl
 |[a],us,h =>
  obtain⟨v,r,f,c,rfl⟩:=XY h;have:=Kq c;subst this;trivial
 |a::b::l,us,h =>
  obtain⟨v,r,f,c,rfl⟩:=XY h;obtain⟨g,i,e,d,rfl⟩:=XY c;show V β (.t _)=_;unfold V;simp_all
theorem QFL(hm:Ob β h w)(a:Sl X β m tmps){fn:Func}{vs:List A}(c:∀t∈rsL fn.results.toList,X t=true)(b:IL P fn.results.toList m h=some vs):
  ∃v,V β (one vs)=some v/\(results fn tmps).run P w = .ok v w:=by
 obtain⟨us,g1,d⟩:=QCw hm a c b;refine⟨_,QLm g1,?_⟩;have e:results fn tmps=(do
   let vs <-fn.results.mapM (QDi tmps)
   pure _):=rfl
 have f:(fn.results.mapM (QDi tmps)).run P w = .ok us.toArray w:=by
  rw[Array.mapM_eq_mapM_toList];simp_all
 simp_all
end
end Go.Ev
namespace Go.Ev
open Go.RowKit
theorem SD{lv:Nat}{d:Tr B}:∀ {f:Nat} {l:List A} {h:Tr B} {q:Po} {b:B},(PL lv d f l h).get q=some b->h.get q=some b\/(h.get q=none/\∃b1,d.get q=some b1/\b=⟨b1.o,lv⟩/\lv+1<=b1.lv)
 |0,_,_,_,_,h=>.inl h
 |f+1,[],_,_,_,h=>.inl h
 |f+1,a::r,h,q,b,hg=>by
  have nm:∀n:Po,(ai (motive:=fun _=>Tr B) (h.get n) (ai (d.get n) (PL lv d f r h) fun b=>cn _ _ _) fun _=>PL lv d f r h).get q=some b->h.get q=some b\/(h.get q=none/\∃b1,d.get q=some b1/\b=⟨b1.o,lv⟩/\lv+1<=b1.lv):=fun n c=>by
   cases e:h.get n with
   |some x=>rw[e]at c;exact SD c
   |none =>
    rw[e]at c;cases i:d.get n with
    |none=>rw[i]at c;exact SD c
    |some b1 =>
     rw[i]at c;replace c:(cn (aq (aD lv) b1.lv) (PL lv d f (sub b1.o++r) (h.put (some ⟨b1.o,lv⟩) n)) (PL lv d f r h)).get q=some b:=c;rw[ZX]at c;split at c
     case isFalse=>exact SD c
     rcases SD c with g | ⟨g,h3⟩
     ·rcases Tr.K4 _ g with ⟨rfl,j⟩ | ⟨_,j⟩
      all_goals simp_all
     grind[Tr.Iu]
  cases a with
  |p n o=>exact nm n hg
  |l n o a b=>exact nm n hg
  |o n o a b=>exact nm n hg
  |m n=>exact nm n hg
  |_=>exact SD (f:=f) hg
end Go.Ev
namespace Go.Ev
open Go.RowKit
theorem Mv.leave{lv:Nat}{β β':Be}{h J:Tr B}{n F:Po}{w w' E:World}(M:Mv lv β h n w β' J F w')(k:Ok β' J F E)(H:jD w' E)(K:E.heap.size=w'.heap.size)(U:∀b,b<w.heap.size->E.heap[b]?=w'.heap[b]?):Mv lv β h n w β' J F E :=
 ⟨M.le,M.old,k,H.os.trans M.os,H.tape.trans M.tape,H.out.trans M.out,trivial,by rw[K];exact M.size,fun b hb L=>(U b hb).trans (M.fr b hb L),M.src,M.dC⟩
theorem QDX{P:Program}{ih:Ih}(d:IhS P ih){f:FuncId}{fn:Func}{c:Code}(p:P.funcs[f]?=some fn)(hb:fn.body=some c)(x:LP fn.ntmps c=true){lv:Nat}{args:List A}{h:Tr B}{n:Po}{β:Be}{w:World}{vs:List Value}{r:R}{rs:List A}
  (E:(yz P true (bit (need c (orN (rsL fn.results.toList) 0))) c).f ih lv (p6 args 0 .lf) h n=some r) (z:IL P fn.results.toList r.m r.h=some rs) (h3:∀id,r.e≠.ex id) (b:Vs β args=some vs) (hk:Ok β h n w) (hg:Gl β n) (y:Lb lv h) {R:Ending->World->Prop}
  (q:∀v β' wf,V β' (one rs)=some v->Mv lv β h n w β' r.h r.n wf->R (.returned v) wf):Calls P f vs.toArray w R:=by
 refine(callsIn_wide (n:=0)).1 (callsIn_of_wp_marks p hb trivial ?_);refine QB9 (cN P) (fun _=>rfl) d c (cO (by grind) c x) E ⟨QDY b _,rfl,hk,hg,y,trivial,aj _⟩ fun β' K w' s M=>?_;have a:LeavesInM _ 0 P fn _ R _ .returning w':=Cq s.ok s.df s.b0 fun wf g k j i H=>by
  obtain⟨v,g1,F⟩:=QFL g.ob s.sl (fun t o=>vO c (gW o)) z;exact⟨v,F,q v β' wf g1 (M.leave g k j i)⟩
 cases J:r.e with
 |nm=>exact a
 |ex id=>simp_all
 |rt=>exact a
end Go.Ev
namespace Go.Ev
open Go.RowKit
theorem Mv.PL{lv:Nat}{β β':Be}{h L:Tr B}{n n':Po}{w w':World}(M:Mv (lv+1) β h n w β' L n' w')(k:Ok β h n w)(hL:Lb lv h)(f:Nat)(l:List A):Mv lv β h n w β' (Ev.PL lv L f l h) n' w':=by
 have hno:∀ {q x p},L.get q=some x->lv+1<=x.lv->β' q=some p->w.heap.size<=p.ZH:=fun {q x p} h2 h3 h4=>by
  rcases aX p.ZH _ with g | g
  ·obtain⟨q0,c0,p0,g1,_,_,g4⟩:=M.src q x p h2 h4 g;have:=hL q0 c0 g1;omega
  omega
 have hfr:∀b,b<w.heap.size->w'.heap[b]?=w.heap[b]?:=fun b hb=>M.fr b hb fun q c p F hc _=>by have:=hL q c F;omega
 have E:∀ {q b},(Ev.PL lv L f l h).get q=some b->(h.get q=some b)\/(∃J,L.get q=some J/\b=⟨J.o,lv⟩/\∀p,β' q=some p->w.heap.size<=p.ZH):=fun {q b} F=>by
  grind[SD]
 have H:∀ {q b},h.get q=some b->β' q=β q:=fun {q b} F=>M.old q (k.nm F);refine⟨M.le,M.old,⟨fun q b F=>?_,fun q q' b b' p p' F U Y X e=>?_,M.ok.top⟩,M.os,M.tape,M.out,M.drawn,M.size,fun b hb _=>hfr b hb,fun q c p F Y hb=>?_,fun K hK hh q c F=>?_⟩
 ·rcases E F with g | ⟨J,g1,rfl,_⟩
  ·obtain⟨p,o,g1,g2,g3⟩:=k.ob q b g;exact⟨p,o,by simp_all,by grind,g3.le (M.be k)⟩
  ·exact M.ok.ob q J g1
 ·rcases E F with g | ⟨J,g1,_,g3⟩<;>rcases E U with g' | ⟨b1',g1',_,g3'⟩
  ·exact k.inj q q' b b' p p' g g' (by simp_all) (by simp_all) e
  ·have:=k.lt g (by rw[<-H g];exact Y);grind
  ·have:=k.lt g' (by rw[<-H g'];omega);grind
  ·exact M.ok.inj q q' J b1' p p' g1 g1' Y X e
 all_goals grind
def UK(P:Program)(a:kg):Prop:=∀f o,a f=some o->∀lv args h n r,o.f args h n lv=some r->Mg P lv f args h n r
noncomputable def StB (P:Program):Bool:=P.funcs.toList.all fun fn=>match fn.body with | none=>true | some c=>LP fn.ntmps c&&!(fn.name == "runtime.NumGoroutine")
theorem QG8{P:Program}(h:StB P=true){f:FuncId}{fn:Func}{c:Code}(a:P.funcs[f]?=some fn)(hb:fn.body=some c):LP fn.ntmps c=true/\(fn.name == "runtime.NumGoroutine")=false:=by
 grind[StB,aw,List.mem_of_getElem]
theorem exR{r:R}{k:Option R}{a:R}(h:(Ex.casesOn r.e k (fun _=>none) k)=some a):(∀id,r.e≠.ex id)/\k=some a:=by
 cases b:r.e<;>simp_all[id]
theorem QJT{P:Program}{imp:FuncId->Bool}{ih:Ih}(U:StB P=true)(i:IhS P ih){f:FuncId}{lv:Nat}{args:List A}{h:Tr B}{n:Po}{r:R}(b:(fbD P imp f).f ih lv args h n=some r):Mg P lv f args h n r:=by
 unfold fbD at b;split at b
 ·cases b
 ·rename_i fn k;split at b
  ·cases b
  ·rename_i c hb;obtain⟨F,d⟩:=QG8 U k hb;have j:=enters_of k d (by simp_all);intro β w vs g hk hg o;refine .inr ⟨j _ _,?_⟩;rw[cond_eq_ite]at b;split at b
   ·have a:bd ((yz P true (bit (need c (orN (rsL fn.results.toList) 0))) c).f ih lv (p6 args 0 .lf) h n) (fun r=>Ex.casesOn r.e (bd (IL P fn.results.toList r.m r.h) fun vs=>rz (one vs) r.h r.n) (fun _=>none) (bd (IL P fn.results.toList r.m r.h) fun vs=>rz (one vs) r.h r.n))=some r:=by
     omega
    obtain⟨K,E,z⟩:=Qc a;obtain⟨h3,y⟩:=exR z;obtain⟨rs,t,p⟩:=Qc y;obtain⟨X,H,e3⟩:=YM p;refine QDX i k hb F E t h3 g hk hg o fun v β' J g1 M=>⟨v,β',rfl,by simp_all,by simp_all⟩
   ·have a:bd ((yz P true (bit (need c (orN (rsL fn.results.toList) 0))) c).f ih (aD lv) (p6 args 0 .lf) h n) (fun r=>Ex.casesOn r.e (bd (IL P fn.results.toList r.m r.h) fun vs=>rz (one vs) (PL lv r.h 100000 vs h) r.n) (fun _=>none) (bd (IL P fn.results.toList r.m r.h) fun vs=>rz (one vs) (PL lv r.h 100000 vs h) r.n))=some r:=by
     omega
    obtain⟨K,E,z⟩:=Qc a;obtain⟨h3,y⟩:=exR z;obtain⟨rs,t,p⟩:=Qc y;obtain⟨X,H,e3⟩:=YM p;refine QDX i k hb F E t h3 g hk hg (fun q x L=>aR (o q x L)) fun v β' J g1 M=>⟨v,β',rfl,by simp_all,?_⟩;rw[H,e3];exact M.PL hk o _ _
theorem QJS{P:Program}{imp:FuncId->Bool}{c:kg}{ih:Ih}(i:StB P=true)(g:UK P c)(e:IhS P ih){f:FuncId}{lv:Nat}{args:List A}{h:Tr B}{n:Po}{r:R}(a:(fnD P imp c f).f ih lv args h n=some r):Mg P lv f args h n r:=by
 unfold fnD at a;split at a
 ·rename_i o d;cases o with
  |mk o =>
   replace a:ai _ _ some=some r:=a;cases b:o args h n lv with
   |none=>rw[b]at a;grind[QJT]
   |some x=>rw[b]at a;rw[<-ae a];exact g f _ d lv args h n x b
 grind[QJT]
end Go.Ev
namespace Go.Ev
open Go.RowKit
theorem QC6{X:Nat->Bool}{β:Be}:∀ {ps:List Tmp} {l:List A} {m m':Tr A} {vs:List Value} {ts:Array Value},QH0 ps l m=some m'->Vs β l=some vs->Sl X β m ts->(∀p∈ps,p<ts.size) ->
  ps.length=vs.length/\Sl X β m' ((ps.zip vs).foldl (fun ts (x:Tmp×Value)=>ts.setIfInBounds x.1 x.2) ts)/\((ps.zip vs).foldl (fun ts (x:Tmp×Value)=>ts.setIfInBounds x.1 x.2) ts).size=ts.size
 |[],l,m,m',vs,ts,h,hv,d,g=>by
  cases l with
  |nil=>cases ae (show some m=some m' from h);cases hv<;>simp_all
  |cons a l=>cases h
 |p::ps,l,m,m',vs,ts,h,hv,d,g=>by
  cases l with
  |nil=>cases h
  |cons a l =>
   have h:QH0 ps l _=some m':=h;obtain⟨v,r,z,j,rfl⟩:=XY hv;have c:Sl X β (m.put (some a) (po p)) (ts.setIfInBounds p v):=fun t b i hb=>by
    rcases Tr.K4 _ hb with ⟨e,f⟩ | ⟨e,f⟩
    ·grind[QBK,ae]
    ·obtain⟨u,g1,E⟩:=d t b i f
     grind
   obtain⟨w,o,k⟩:=QC6 h j c (fun q y=>by simp_all);simp_all
section
variable{lv:Nat}{β1 β2:Be}{h1 h2:Tr B}{n1 n2:Po}{w1 w3:World}{l:Po}{b2:B}{p:Pl}{obj busy:Obj}
theorem Ok.take(H:Ok β1 h1 n1 w1)(hl:h1.get l=some b2)(Y:β1 l=some p)(o:Obj):Ok β1 (h1.put none l) n1 (w1.putObj p.ZH o):=by
 have L:∀ {q x},(h1.put none l).get q=some x->q≠l/\h1.get q=some x:=fun {q x} E=>by
  grind[Tr.K4]
 refine⟨fun q b E=>?_,fun q U b b' p F E J=>H.inj q U b b' p F (L E).2 (L J).2,H.top⟩;obtain⟨K,E⟩:=L E;obtain⟨F,X,g1,g2,g3⟩:=H.ob q b E;refine⟨F,X,g1,?_,g3⟩;rw[ao fun e=>K (H.inj q l b b2 F p E hl g1 Y e)];exact g2
theorem Mv.round(k1:Ok β1 h1 n1 w1)(hl:h1.get l=some b2)(hp:β1 l=some p)(ho:w1.heap[p.ZH]?=some obj)(M:Mv lv β1 (h1.put none l) n1 (w1.putObj p.ZH busy) β2 h2 n2 w3):Mv lv β1 h1 n1 w1 β2 (h2.put (some b2) l) n2 (w3.putObj p.ZH obj):=by
 have hlt:=(Array.getElem?_eq_some_iff.1 ho).1;have hn:∀ {q x},(h1.put none l).get q=some x->q≠l/\h1.get q=some x:=fun {q x} F=>by
  grind[Tr.K4]
 have hs:(w1.putObj p.ZH busy).heap.size=w1.heap.size:=aC;have hs3:(w3.putObj p.ZH obj).heap.size=w3.heap.size:=aC;have Y:p.ZH<w3.heap.size:=Nat.lt_of_lt_of_le hlt (by have:=M.size;omega);have hp2:β2 l=some p:=by rw[M.old l (k1.nm hl)];exact hp
 have hne:∀ {q x J},h2.get q=some x->β2 q=some J->J.ZH≠p.ZH:=fun {q x J} F U e=>by
  obtain⟨q0,c0,p0,g1,H,g3,_⟩:=M.src q x J F U (by omega);obtain⟨g4,g5⟩:=hn g1;exact g4 (k1.inj q0 l c0 b2 p0 p g5 hl H hp (by omega))
 have E:∀ {q x},(h2.put (some b2) l).get q=some x->(q=l/\x=b2)\/(q≠l/\h2.get q=some x):=fun {q x} F=>by
  grind[Tr.K4,ae]
 refine⟨M.le,M.old,⟨fun q b F=>?_,fun q q' b b' p1 p1' F U L X e=>?_,M.ok.top⟩,M.os,M.tape,M.out,M.drawn,by have:=M.size;omega,fun b hb hh=>?_,fun q c p1 F L hb=>?_,fun K hK hh q c F=>?_⟩
 ·rcases E F with ⟨rfl,rfl⟩ | ⟨g1,H⟩
  ·obtain⟨J,o',e1,e2,e3⟩:=k1.ob q b hl;rw[hp]at e1;cases e1;rw[ho]at e2;cases e2;exact⟨p,obj,hp2,az Y,e3.le (M.be (k1.take hl hp busy))⟩
  ·obtain⟨J,o',e1,e2,e3⟩:=M.ok.ob q b H
   grind[ao]
 ·rcases E F with ⟨rfl,rfl⟩ | ⟨g1,H⟩<;>rcases E U with ⟨rfl,rfl⟩ | ⟨g1',g2'⟩
  ·rfl
  ·grind
  ·grind
  ·exact M.ok.inj q q' b b' p1 p1' H g2' L X e
 ·by_cases e:b=p.ZH
  ·grind[az]
  ·rw[ao e,M.fr b (by omega) fun q c J F hc=>hh q c J (hn F).2 hc,ao e]
 ·rcases E F with ⟨rfl,rfl⟩ | ⟨g1,H⟩
  ·grind
  ·obtain⟨q0,c0,p0,e1,e2,e3,e4⟩:=M.src q c p1 H L (by omega)
   grind
 ·rcases E F with ⟨rfl,rfl⟩ | ⟨g1,H⟩
  ·grind
  ·exact M.dC K hK (fun q c F=>hh q c (hn F).2) q c H
end
theorem QFI {P:Program} {ih:Ih} (F:IhS P ih) {lv:Nat} {l:Po} {args:List A} {h:Tr B} {n:Po} {r:R} (hr:(bd (h.get l) fun b=>match b.o with
  |.lp m X ps as body=>bd (QH0 ps args m) fun m=>Bx.casesOn (yz P false X as) fun f=>bd (f ih lv m h n) fun r=>Ex.casesOn r.e (bd (r.h.get l) fun b2=>(match b2.o with
   |.lp _ _ _ _ _=>Bx.casesOn (yz P false X body) fun f=>bd (f ih lv r.m (r.h.put none l) r.n) fun r2=>Ex.casesOn r2.e (rz (.b true) (r2.h.put (some b2) l) r2.n) (fun _=>none) none
   |_=>none)) (fun _=>none) none
  |_=>none)=some r):RdS P lv l args h n r:=by
 intro β w vs p hv hk hg hL hp;obtain⟨b,h1,j⟩:=Qc hr;clear hr;split at j
 case h_2=>grind
 rename_i m X ps as body hbo;obtain⟨m1,h2,z⟩:=Qc j;clear j;obtain⟨Y,h3,i⟩:=Qc z;clear z;cases he:Y.e with
 |ex id=>simp_all
 |rt=>simp_all
 |nm =>
  rw[he]at i;obtain⟨b2,U,g⟩:=Qc i;clear i;split at g
  case h_2=>grind
  rename_i m' X' ps' as' bd' hb2;obtain⟨r2,h5,y⟩:=Qc g;clear g;cases H:r2.e with
  |ex id=>simp_all
  |rt=>simp_all
  |nm =>
   rw[H]at y;obtain⟨e1,e2,e3⟩:=YM y;obtain⟨p',o,g1,g2,g3⟩:=hk.ob l b h1;rw[hp]at g1;cases g1;rw[hbo]at g3;obtain⟨J,rfl,s1,s2,s3,s4,s5,s6,k⟩:=g3;have k:((J.params.toList.all fun p=>dOk _ _)&&(LP _ as&&LP _ body))=true:=k;rw[aa,aa,aw]at k;obtain⟨k1,k2,k3⟩:=QC6 h2 hv s6 (fun q E=>af (k.1 q (by simp_all)));have ets:(J.params.zip vs.toArray).foldl (fun tmps (x:Tmp×Value)=>tmps.setIfInBounds x.1 x.2) J.tmps=(ps.zip vs).foldl (fun ts (x:Tmp×Value)=>ts.setIfInBounds x.1 x.2) J.tmps:=by
    simp_all
   refine⟨_,_,_,_,run_yield g2 (by simp_all),?_⟩;rw[s4,s5];refine roundIn_of_wpIn trivial ?_;have hF:=QDt P p.ZH;refine QB9 hF (fun e=>(by cases e)) F as k.2.1 h3 ⟨?_,?_,hk,hg,hL,trivial,aj _⟩ fun β1 a1 w1 s M=>?_
   ·simp_all
   ·simp_all
   rw[he];obtain⟨L,o1,K,q2,q3⟩:=s.ok.ob l b2 U;have hp1:L=p:=by rw[M.old l (hk.nm h1),hp]at K;simp_all
   subst hp1;rw[hb2]at q3;obtain⟨a,rfl,t1,t2,_⟩:=q3;refine⟨_,run_beginRound q2 t1,?_⟩;have hlt:=(Array.getElem?_eq_some_iff.1 q2).1;have hkt:=s.ok.take U K (.loop { a with state:=.busy });have hdf:∀ {t:List _},jE w.heap.size β1 Y.h w1 t->jE w.heap.size β1 (Y.h.put none l) (w1.putObj L.ZH (.loop { a with state:=.busy })) t:=by
    intro t
    induction t with
    |nil=>exact fun _=>trivial
    |cons d t ih =>
     rintro⟨⟨D,f1,f2,f3,f4,f5⟩,f6⟩;refine⟨⟨D,f1,f2,?_,fun q x p E=>?_,f5⟩,ih f6⟩
     all_goals grind[ao,Tr.K4]
   refine QB9 hF (fun e=>(by cases e)) F body k.2.2 h5 ⟨s.sl,s.sz,hkt,s.gl,fun q x E=>?_,hdf s.df,by rw[aC];exact s.b0⟩ fun β2 a2 w3 s2 M2=>?_
   ·rcases Tr.K4 _ E with ⟨_,e⟩ | ⟨_,e⟩
    ·cases e
    ·exact s.lb q x e
   rw[H];have hfr:w3.heap[L.ZH]?=some (.loop { a with state:=.busy }):=by
    rw[M2.fr _ (by simp_all) fun q c p' E _ hp' e=>?_]
    ·exact az hlt
    ·rcases Tr.K4 _ E with ⟨_,e'⟩ | ⟨e',e''⟩
     ·cases e'
     ·exact e' (s.ok.inj q l c b2 p' L e'' U hp' K e)
   have MM:=M.trans (Mv.round s.ok U K q2 M2);have hrr:({ ({ a with state:=.busy }:Loop)with state:=if(none:Option Code).isNone then .ready else .done,pending:=none }:Loop)=a:=by
    cases a<;>simp_all
   refine⟨_,_,run_endRound none hfr,.bool true,β2,rfl,by rw[e1];rfl,?_⟩;simp_all
end Go.Ev
namespace Go.Ev
def QIy(P:Program)(met:TypeId->String->Option FuncId):Prop:=∀T name g,met T name=some g->hasB P g=true/\∀v (vs:List Value) w,(callMethod (.iface T v) name vs.toArray).run P w = .ok (.enter g (v::vs).toArray) w
theorem vP{P:Program}{imp:FuncId->Bool}{a:kg}{met:TypeId->String->Option _}(d:StB P=true)(i:UK P a)(j:QIy P met):∀k,IhS P (go P imp a met k)
 |0,_,_,h=>by cases h
 |k+1,.ca lv f args h n,r,c=>QJS d i (vP d i j k) c
 |k+1,.rd lv l args h n,r,c=>QFI (vP d i j k) c
 |k+1,.me lv T b args h n,r,c=>by
  obtain⟨g,t,p⟩:=Qc (show bd _ (fun f=>Bx.casesOn (fnD P imp a f) fun q=>q (go P imp a met k) lv args h n)=some r from c);obtain⟨hb,hm⟩:=j T b g t;have m:=QJS d i (vP d i j k) (show(fnD P imp a g).f _ lv args h n=some r from p);intro β w v vs hv hk hg o;rcases m β w _ hv hk hg o with ⟨e,_⟩ | ⟨_,h3⟩
  all_goals simp_all
end Go.Ev
namespace Go.Ev
open Go.RowKit
abbrev Orb:=Bx (List A->Tr B->Po->Nat->Option R)
noncomputable section
def idx:List Nat->Nat->Nat->Int
 |[],_,_=>.negSucc 0
 |a::l,c,k=>bif ak a c then .ofNat k else idx l c (k+1)
def W64:Nat:=18446744073709551616
def QFm:Orb:=⟨fun l h n _=>match l with
 |[.i .u64 (.ofNat x),.i .u64 (.ofNat y)]=>gu (aq (aD x) W64) (gu (aq (aD y) W64) (rz (.t [.i .u64 (.ofNat (Nat.div (Nat.mul x y) W64)),.i .u64 (.ofNat (aW (Nat.mul x y) W64))]) h n))
 |_=>none⟩
def QFq:Orb:=⟨fun l h n _=>match l with
 |[.s l,.i .u8 (.ofNat c)]=>gu (aq c 255) (rz (.i .i64 (idx l c 0)) h n)
 |_=>none⟩
def QFw:Orb:=⟨fun l h n _=>match l with
 |[.i .u64 (.ofNat x),.i .u64 (.ofNat y),.i .u64 (.ofNat c)]=>gu (aq c 1) (rz (.t [.i .u64 (.ofNat (aW (x+y+c) W64)),.i .u64 (.ofNat (Nat.div (x+y+c) W64))]) h n)
 |_=>none⟩
def QFj:Orb:=⟨fun l h n _=>match l with
 |[.i .u64 (.ofNat x),.i .u64 (.ofNat y),.i .u64 (.ofNat c)]=>gu (aq c 1) (rz (.t [.i .u64 (.ofNat (aW (x+W64-y-c) W64)),.i .u64 (.ofNat (bif aq (y+c) x then 0 else 1))]) h n)
 |_=>none⟩
def QFs:Orb:=⟨fun l h n _=>match l with | [x]=>rz x h n | _=>none⟩
def QFo(u:TypeId):Orb:=⟨fun l h n lv=>match l with
 |[.i .i64 (.ofNat k)]=>gu (aq k lim) (nw (.c [] u true) (.o · 0 k 1) lv h n)
 |_=>none⟩
end
section
variable{P:Program}{f:FuncId}{fn:Func}{lv:Nat}{args:List A}{h:Tr B}{n:Po}{r:R}
theorem QC7{e:Array Value->Sem Value}(d:P.funcs[f]?=some fn)(b:(fn.name == "runtime.NumGoroutine")=false)(hb:fn.body.isNone=true)(c:ar fn=none)(g:ax fn=some e)
  (H:∀β w vs,Vs β args=some vs->Ok β h n w->∃v β' w',(e vs.toArray).run P w = .ok v w'/\V β' r.a=some v/\Mv lv β h n w β' r.h r.n w'):Mg P lv f args h n r:=fun β w vs hv hk _ _=>by
 obtain⟨v,β',w',j,i,h3⟩:=H β w vs hv hk;refine .inl ⟨?_,v,β',w',by rw[run_callFunc_extern d b hb c g,j];rfl,i,h3⟩;unfold hasB;simp_all
theorem jJ{e:Array Value->Sem Value}(g:P.funcs[f]?=some fn)(b:(fn.name == "runtime.NumGoroutine")=false)(hb:fn.body.isNone=true)(d:ar fn=none)(i:ax fn=some e)
  {a:A} (c:rz a h n=some r) (H:∀β w vs,Vs β args=some vs->∃v,(e vs.toArray).run P w = .ok v w/\V β a=some v):Mg P lv f args h n r :=
 QC7 g b hb d i fun β w vs hv hk=>by
  obtain⟨o,m,e3⟩:=YM c;obtain⟨v,k,j⟩:=H β w vs hv
  grind[Mv.refl]
theorem GG{a c:Nat}(f:a<=255)(d:c<=255):(au a==au c)=ak a c:=by
 by_cases e:a=c
 ·simp_all
 ·have b:ak a c=false:=by
   cases h:ak a c<;>simp_all
  rw[b,beq_eq_false_iff_ne];intro g
  grind[UInt8.toNat_ofNat']
theorem idx_eq{c:Nat}(d:c<=255):∀ {l:List Nat} (k:Nat),Uz l=true->idx l c k=if ay (l.map au) (au c)==-1 then -1 else ay (l.map au) (au c)+k
 |[],k,_=>rfl
 |a::l,k,b=>by
  unfold Uz at b;rw[aV,aa]at b;have f:=af b.1;have ih:=idx_eq d (k+1) b.2;rw[List.map_cons];unfold idx ay;rw[GG f d];cases ak a c with
  |true=>simp
  |false =>
   have e:=Lib.indexByte_ge (l.map au) (au c)
   grind
theorem Vs1{β:Be}{a:A}{vs:List Value}(h:Vs β [a]=some vs):∃v,V β a=some v/\vs=[v]:=by
 obtain⟨v,r,c,b,rfl⟩:=XY h;cases b<;>simp_all
theorem Vs2{β:Be}{a b:A}{vs:List Value}(h:Vs β [a,b]=some vs):∃v u,V β a=some v/\V β b=some u/\vs=[v,u]:=by
 obtain⟨v,r,d,c,rfl⟩:=XY h;obtain⟨u,g1,rfl⟩:=Vs1 c;simp_all
theorem QMj{β:Be}{l:List Nat}{v:Value}(h:V β (.s l)=some v):Uz l=true/\v = .string (Hr l):=by
 unfold V at h;simp_all
theorem QFp(d:P.funcs[f]?=some fn)(b:(fn.name == "runtime.NumGoroutine")=false)(hb:fn.body.isNone=true)(c:ar fn=none)(e:ax fn=some aG)(a:QFq.f args h n lv=some r):Mg P lv f args h n r:=by
 unfold QFq at a;simp only at a;split at a
 case h_2=>cases a
 obtain⟨g,a⟩:=Q9 a;refine jJ d b hb c e a fun β w vs hv=>?_;obtain⟨v,u,g1,j,rfl⟩:=Vs2 hv;obtain⟨i,rfl⟩:=QMj g1;cases ae (show some _=some u from j);refine⟨_,Lib.run_indexByteString _ _ w,?_⟩;show some _=some _;rw[idx_eq (af g) 0 i];congr 2;show(if ay _ _==-1 then _ else ay _ _+0)=ay (List.map _ _) _;simp_all
theorem QFv(g:P.funcs[f]?=some fn)(b:(fn.name == "runtime.NumGoroutine")=false)(hb:fn.body.isNone=true)(e:ar fn=none)(i:ax fn=some add64Entry)(a:QFw.f args h n lv=some r):Mg P lv f args h n r:=by
 unfold QFw at a;simp only at a;split at a
 case h_2=>cases a
 rename_i x y c;obtain⟨d,a⟩:=Q9 a;have d:=af d;refine jJ g b hb e i a fun β w vs hv=>?_;cases ae (show some [aB .u64 x,.int .u64 y,.int .u64 c]=some vs from hv);refine⟨_,run_add64 (x:Int) y c (by omega) (by omega) (by omega) (by omega) w,?_⟩;rfl
def D6:Array Value->Sem Value:=fun args=>do
 let (x,y,b) <-aM "Sub64" args
 pure (aQ ((x+aA-y-b)%aA) (if x<y+b then 1 else 0))
theorem Rm(x y b:Nat)(hb:b<=1)(w:World):
  (D6 #[.int .u64 x,.int .u64 y,.int .u64 b]).run P w =
   .ok (.tuple #[.int .u64 (((x+18446744073709551616-y-b)%18446744073709551616:Nat):Int),.int .u64 ((if x<y+b then 1 else 0:Nat):Int)]) w:=by
 have:b=0\/b=1:=by omega
 rcases this with rfl | rfl<;>rfl
theorem QFi(i:P.funcs[f]?=some fn)(b:(fn.name == "runtime.NumGoroutine")=false)(hb:fn.body.isNone=true)(g:ar fn=none)(j:ax fn=some D6)(a:QFj.f args h n lv=some r):Mg P lv f args h n r:=by
 unfold QFj at a;simp only at a;split at a
 case h_2=>cases a
 rename_i x y c;obtain⟨d,a⟩:=Q9 a;have d:=af d;refine jJ i b hb g j a fun β w vs hv=>?_;cases ae (show some [aB .u64 x,.int .u64 y,.int .u64 c]=some vs from hv);refine⟨_,Rm x y c d w,?_⟩;have e:(bif aq (y+c) x then 0 else 1)=if x<y+c then 1 else 0:=by
  cases hb:aq _ x with
  |true=>simp_all
  |false=>rw[if_pos (by
    grind[aX,aH])];rfl
 rw[e];rfl
theorem QFr(d:P.funcs[f]?=some fn)(a:(fn.name == "runtime.NumGoroutine")=false)(hb:fn.body.isNone=true)(c:ar fn=none)(e:ax fn=some aS)(b:QFs.f args h n lv=some r):Mg P lv f args h n r:=by
 unfold QFs at b;simp only at b;split at b
 case h_2=>cases b
 refine jJ d a hb c e b fun β w vs hv=>?_;obtain⟨v,g1,rfl⟩:=Vs1 hv
 grind[Lib.run_noEscape]
theorem QFn{ps:Array _}{t u:TypeId}(j:P.funcs[f]?=some fn)(b:(fn.name == "runtime.NumGoroutine")=false)(hb:fn.body.isNone=true)(g:ar fn=none)(m:ax fn=some (aF ps #[t]))(e:P.underlying t=some (.slice u))(a:(QFo u).f args h n lv=some r):Mg P lv f args h n r:=by
 unfold QFo at a;simp only at a;split at a
 case h_2=>cases a
 rename_i k;obtain⟨d,a⟩:=Q9 a;have d:=af d;unfold lim at d;refine QC7 j b hb g m fun β w vs hv hk=>?_;cases ae (show some [aB .i64 k]=some vs from hv);obtain⟨c,g1,x,_⟩:=Lib.run_makeNoZero w ps t u e k (by omega);obtain⟨q,p,e3⟩:=YM (show rz _ _ n.s=some r from a);refine⟨_,kf β n ⟨w.heap.size,0,c.size⟩,_,g1,?_,?_⟩
 ·rw[q];have o:(c.size-(0+0))/1=c.size:=by omega
  have:=kM (β:=kf β n ⟨w.heap.size,0,c.size⟩) (off:=0) (len:=k) (sz:=1) (VP _ _ _) (by simp_all);rw[this];rw[o];rfl
 ·rw[p,e3];exact Mv.new hk lv lv (aj _) rfl ⟨rfl,rfl,rfl,trivial⟩ ⟨c,[],rfl,rfl,rfl,fun i v hv=>(by cases hv),by simp,fun h=>(by cases h),rfl⟩
end
end Go.Ev
namespace Go.Ev
noncomputable section
def QCs:List (A×A×Nat)->List (A×A×Nat)->Bool
 |[],[]=>true
 |(k,v,b)::l,(c,a,d)::r=>same k c&&(same v a&&(ak b d&&QCs l r))
 |_,_=>false
def QFB:O->O->Bool
 |.c l T b,.c a T' g=>Ul l a&&(ak T T'&&(b==g))
 |.r l T,.r a T'=>Ul l a&&ak T T'
 |.m e c,.m d f=>QCs e d&&ak c f
 |_,_=>false
def QCt:Option B->Option B->Bool
 |none,none=>true
 |some a,some b=>ak a.lv b.lv&&QFB a.o b.o
 |_,_=>false
def QGa(t:Tr B):Bool:=Tr.rec true (fun v _ _ a b=>v.isNone&&(a&&b)) t
def qh(t:Tr B):Tr B->Bool:=Tr.rec (fun u=>QGa u) (fun v _ _ a b u=>QCt v u.v&&(a u.l&&b u.r)) t
def dj(o:Option R)(r:R):Bool:=ai o false fun x=>same x.a r.a&&(qh x.h r.h&&Po.eq x.n r.n)
structure Mm where
 f:FuncId
 lv:Nat
 args:List A
 h:Tr B
 n:Po
 r:R
def hit(m:Mm)(args:List A)(h:Tr B)(n:Po)(lv:Nat):Bool:=Po.eq n m.n&&(Ul args m.args&&(ak lv m.lv&&qh h m.h))
def GM(m:Mm)(o:kg):kg:=fun f=>cn (ak f m.f) (some ⟨fun args h n lv=>cn (hit m args h n lv) (some m.r) (match o f with | some b=>b.f args h n lv | none=>none)⟩) (o f)
def Q(t:Nat):Po:=Nat.rec (fun _=>.h) (fun _ ih t=>cn (aq t 1) .h (cn (ak (Nat.land t 1) 0) (.o (ih (aT t 1))) (.i (ih (aT t 1))))) 26 t
def aI(n:Nat):A:=.i .i64 (.ofNat n)
def aJ(n:Nat):A:=.i .i64 (.negSucc n)
def aU(n:Nat):A:=.i .u64 (.ofNat n)
def aN:A:=.k (.slice none 0 0)
def aP(n off:Nat):A:=.p (Q n) off
def aL(n off len cap:Nat):A:=.l (Q n) off len cap
def aO(n off len sz:Nat):A:=.o (Q n) off len sz
def bC(n:Nat)(l:List A)(T:TypeId)(a:Bool)(lv:Nat)(h:Tr B):Tr B:=h.put (some ⟨.c l T a,lv⟩) (Q n)
def bR(n:Nat)(l:List A)(T:TypeId)(lv:Nat)(h:Tr B):Tr B:=h.put (some ⟨.r l T,lv⟩) (Q n)
def bM(n:Nat)(l:List (A×A×Nat))(c:Nat)(lv:Nat)(h:Tr B):Tr B:=h.put (some ⟨.m l c,lv⟩) (Q n)
def QFS:List A:=[1,10,100,1000,10000,100000,1000000,10000000,100000000,1000000000,10000000000,100000000000,1000000000000,10000000000000,100000000000000,1000000000000000,10000000000000000,100000000000000000,1000000000000000000,10000000000000000000].map fun z=>.i .u64 (.ofNat z)
end
def Teq(t u:Tr B):Prop:=∀q,t.get q=u.get q
theorem ux:∀ {l r:List _},QCs l r=true->l=r
 |[],[],_=>rfl
 |(k,v,b)::l,(c,a,d)::r,h=>by
  have h:(same k c&&(same v a&&(ak b d&&QCs l r)))=true:=h;rw[aa,aa,aa]at h;rw[Ml _ _ h.1,Ml _ _ h.2.1,ah h.2.2.1,ux h.2.2.2]
theorem QFA{a b:O}(h:QFB a b=true):a=b:=by
 unfold QFB at h;split at h
 ·grind[N0,ah]
 ·grind[N0,ah]
 ·grind[ux,ah]
 grind
theorem QFC{a b:Option B}(h:QCt a b=true):a=b:=by
 unfold QCt at h;split at h
 ·rfl
 ·rename_i x y;rw[aa]at h;have c:=QFA h.2;cases x<;>simp_all
 grind
theorem yg:∀ {u:Tr B},QGa u=true->∀q,u.get q=none
 |.lf,_,q=>Tr.pF q
 |.nd v l r,h,q=>by
  have h:(v.isNone&&(QGa l&&QGa r))=true:=h;rw[aa,aa]at h;cases q with
  |h=>exact Option.isNone_iff_eq_none.1 h.1
  |o q=>exact yg h.2.1 q
  |i q=>exact yg h.2.2 q
theorem Rl:∀ {t u:Tr B},qh t u=true->Teq t u
 |.lf,u,h,q=>by rw[Tr.pF,yg (show QGa u=true from h) q]
 |.nd v l r,u,h,q=>by
  have h:(QCt v u.v&&(qh l u.l&&qh r u.r))=true:=h;rw[aa,aa]at h;cases q with
  |h=>exact QFC h.1
  |o q=>exact Rl h.2.1 q
  |i q=>exact Rl h.2.2 q
section
variable{P:Program}{lv:Nat}{β β':Be}{h h' h1 h1':Tr B}{n n':Po}{w w':World}
theorem Ok.congr(k:Ok β h n w)(e:Teq h h'):Ok β h' n w :=
 ⟨fun q b E=>k.ob q b (by rw[e];exact E),fun q F b K p H E J=>k.inj q F b K p H (by rw[e];exact E) (by rw[e];omega),k.top⟩
theorem Mv.congr(M:Mv lv β h n w β' h1 n' w')(e:Teq h h')(H:Teq h1 h1'):Mv lv β h' n w β' h1' n' w' :=
 ⟨M.le,M.old,M.ok.congr H,M.os,M.tape,M.out,M.drawn,M.size,fun b hb F=>M.fr b hb fun q c p E=>F q c p (by rw[<-e];exact E),
  fun q c p E U hb=>by obtain⟨J,c0,L,g1,Y⟩:=M.src q c p (by rw[H];exact E) U hb;exact⟨J,c0,L,by rw[<-e];exact g1,Y⟩,
  fun K X F q c E=>M.dC K X (fun q c E=>F q c (by rw[<-e];exact E)) q c (by rw[H];exact E)⟩
theorem Mg.congr{f:FuncId}{args:List A}{r E:R}(c:Mg P lv f args h n r)(e:Teq h h')(ea:r.a=E.a)(F:r.n=E.n)(H:Teq r.h E.h):Mg P lv f args h' n E:=fun β w vs hv hk hg X=>by
 have J:=fun q=>(e q).symm;rcases c β w vs hv (hk.congr J) hg (fun q x U=>X q x (by rw[J] ;exact U))with ⟨g1,v,β',w',g2,g3,g4⟩ | ⟨g1,g2⟩
 ·exact .inl ⟨g1,v,β',w',g2,by simp_all,by rw[<-F];exact g4.congr e H⟩
 ·refine .inr ⟨g1,g2.mono ?_⟩;rintro x w' ⟨v,β',L,Y,K⟩;exact⟨v,β',L,by simp_all,by rw[<-F];exact K.congr e H⟩
theorem QKo{o:Option R}{r:R}(h:dj o r=true):∃x,o=some x/\x.a=r.a/\Teq x.h r.h/\x.n=r.n:=by
 cases o with
 |none=>cases h
 |some x =>
  have h:(same x.a r.a&&(qh x.h r.h&&Po.eq x.n r.n))=true:=h;rw[aa,aa]at h;exact⟨x,rfl,Ml _ _ h.1,Rl h.2.1,Po.eq_eq h.2.2⟩
theorem V8{imp:FuncId->Bool}{a:kg}{met:TypeId->String->Option _}(b:StB P=true)(c:UK P a)(d:QIy P met){k:Nat}{m:Mm}(hm:dj (go P imp a met k (.ca m.lv m.f m.args m.h m.n)) m.r=true):Mg P m.lv m.f m.args m.h m.n m.r:=by
 obtain⟨x,i,g,h3,e⟩:=QKo hm;exact Mg.congr (vP b c d k _ _ i) (fun _=>rfl) g e h3
theorem Ym{c:kg}(k:UK P c){m:Mm}(hm:Mg P m.lv m.f m.args m.h m.n m.r):UK P (GM m c):=by
 intro f o d lv args h n r a;unfold GM at d;rw[ZX]at d;split at d
 ·rename_i g;have g:=ah g;subst g;cases ae d;replace a:cn _ _ _=some r:=a;rw[ZX]at a;split at a
  ·rename_i e;cases ae a;unfold hit at e;rw[aa,aa,aa]at e;obtain⟨j,i,e3,p⟩:=e;have j:=Po.eq_eq j;have i:=N0 _ _ i;have e3:=ah e3;subst j;subst i;subst e3;exact Mg.congr hm (fun q=>(Rl p q).symm) rfl rfl (fun _=>rfl)
  ·split at a
   ·rename_i b hb;exact k _ _ hb lv args h n r a
   trivial
 ·exact k f o d lv args h n r a
end
end Go.Ev
namespace Go.Ev
open Go.RowKit
noncomputable section
def hG(g:Nat):Tr B:=(Tr.lf:Tr B).put (some ⟨.r QFS 0,0⟩) (po g)
def n0:Po:=.o (.o (.o (.o (.o (.o (.o .h))))))
def isT(r:Option R):Bool:=ai r false fun x=>same x.a (.b true)
def QHw:List Int:=[1,10,100,1000,10000,100000,1000000,10000000,100000000,1000000000,10000000000,100000000000,1000000000000,10000000000000,100000000000000,1000000000000000,10000000000000000,100000000000000000,1000000000000000000,10000000000000000000]
end
theorem QLD(β:Be):Vs β QFS=some (QHw.map fun z=>aB .u64 z):=rfl
theorem QFl{P:Program}{f:FuncId}{lv:Nat}{args:List A}{h:Tr B}{n:Po}{r:R}(b:Enters P f)(c:∀(x y:Nat),x<18446744073709551616->y<18446744073709551616->∀w:World,Calls P f #[.int .u64 x,.int .u64 y] w fun e w'=>e = .returned (.tuple #[.int .u64 ((x*y/18446744073709551616:Nat):Int),.int .u64 ((x*y%18446744073709551616:Nat):Int)])/\w'=w)
  (a:QFm.f args h n lv=some r):Mg P lv f args h n r:=by
 unfold QFm at a;simp only at a;split at a
 case h_2=>cases a
 rename_i x y;obtain⟨g,a⟩:=Q9 a;obtain⟨d,a⟩:=Q9 a;obtain⟨i,j,e3⟩:=YM a;intro β w vs hv hk _ _;cases ae (show some [aB .u64 x,.int .u64 y]=some vs from hv);refine .inr ⟨b _ _,(c x y (af g) (af d) w).mono ?_⟩;rintro e w' ⟨rfl,rfl⟩;exact⟨_,β,rfl,by rw[i];rfl,by grind[Mv.refl]⟩
theorem uj{P:Program}{f:FuncId}{g:Nat}{r:R}(hb:hasB P f=true)(hg:g<=60)(t:Mg P 1 f [] (hG g) n0 r)(J:r.a = .b true){w:World}{T:TypeId}{fr:Nat×Nat}(F:w.heap[g]?=some (.cells (QHw.map fun z=>aB .u64 z).toArray T fr)):
  Calls P f #[] w fun e w'=>e = .returned (.bool true)/\Below w.heap.size w w':=by
 obtain⟨β,E⟩:∃β:Be,β=fun q=>if q.n<128 then some ⟨q.u,0,20⟩else none:=⟨_,rfl⟩
 have j:∀ {i:Nat},i<=60->β _=some ⟨i,0,20⟩:=fun {i} o=>by
  rw[E];show(if(po i).n<128 then _ else _)=_;rw[if_pos (QJ4 o)];simp[po,QEs,aj]
 have m:∀ {q b},(hG g).get q=some b->q=po g/\b=⟨.r QFS 0,0⟩:=fun {q b} d=>by
  rcases Tr.K4 _ d with ⟨X,K⟩ | ⟨_,K⟩
  all_goals grind[ae,Tr.pF]
 have hk:Ok β (hG g) n0 w:=by
  refine⟨fun q b d=>?_,fun q L b Y p U d H _ _ _=>?_,fun q d=>?_⟩
  ·obtain⟨rfl,rfl⟩:=m d;refine⟨_,_,j hg,F,_,T,fr,_,rfl,rfl,QLD β,fun i v hv=>?_,aj _⟩;simp_all
  ·grind
  ·have d:128<=q.n:=d;simp_all
 rcases t β w [] rfl hk ⟨aj 128,fun i o=>⟨_,j o⟩⟩ (fun q x d=>by grind)with ⟨h,_⟩ | ⟨_,h⟩
 ·simp_all
 ·refine h.mono ?_;rintro e w' ⟨v,β',rfl,y,M⟩;rw[J]at y;cases ae (show some _=some v from y);exact⟨rfl,M.os,M.tape,M.out,M.size,fun k hk=>M.fr k hk fun q c p d t _=>by grind⟩
theorem QKn{o:Option R}(h:isT o=true):∃r,o=some r/\r.a = .b true:=by
 cases o with
 |none=>cases h
 |some x=>exact⟨x,rfl,Ml _ _ h⟩
end Go.Ev
namespace Go.Ev
open Go.RowKit
noncomputable section
def QJK(q:Po)(lv:Nat)(h:Tr B)(n:Po):Option (List R):=bd (h.get q) fun b=>gu (aq lv b.lv) (match b.o with
 |.mi p a c g=>bd (h.get p) fun d=>(match d.o with
  |.m i f=>gu (aq a g&&i.all fun e=>aq (aD e.2.2) a) (match QDA i c with
   |[]=>some [⟨.nm,.t [.b false],.lf,h,n⟩]
   |e::l=>some ((e::l).map fun e=>⟨.nm,.t [.b true,e.1,e.2.1],.lf,h.put (some ⟨.mi p a (e.2.2::c) f,b.lv⟩) q,n⟩))
  |_=>none)
 |_=>none)
abbrev Cn:=Ih->Nat->Tr A->Tr B->Po->(R->Bool)->Bool
def kR(o:Option R)(K:R->Bool):Bool:=ai o false K
def QJ2(P:Program)(X:Nat->Bool)(b:List Oper):Bx Cn:=match b with
 |⟨some d,.next x false,_,_,_,none⟩::c=>Bx.casesOn (Md P X b c [d]) fun f=>⟨fun ih lv m h n K=>ai (bd (ev ⟨X,[]⟩ x [] m) fun a=>bd a.P fun q=>gu (ak q.2 0) (QJK q.1 lv h n)) false fun l=>l.all fun r=>kR (f ih lv [r.a] m r.h r.n) K⟩
 |_=>Bx.casesOn (Md P X b b []) fun f=>⟨fun ih lv m h n K=>kR (f ih lv [] m h n) K⟩
def QDF(a:Tr A->Tr B->Po->(R->Bool)->Bool)(K:R->Bool)(k:Nat):Tr A->Tr B->Po->Bool:=Nat.rec (fun _ _ _=>false) (fun _ ih m h n=>a m h n fun r=>Ex.casesOn r.e (ih r.m r.h r.n) (fun _=>K r) (K r)) k
def QCA(P:Program)(X:Nat->Bool)(c:Code):Bx Cn:=Code.rec (motive:=fun _=>Bx Cn)
 ⟨fun _ _ m h n K=>K ⟨.nm,u0,m,h,n⟩⟩
 (fun _ d g=>cn g ⟨fun _ _ _ _ _ _=>false⟩ (QJ2 P X d.toList))
 (fun _ _ a b=>Bx.casesOn a fun a=>Bx.casesOn b fun b=>⟨fun ih lv m h n K=>a ih lv m h n fun r=>Ex.casesOn r.e (b ih lv r.m r.h r.n K) (fun _=>K r) (K r)⟩)
 (fun x _ _ a b=>Bx.casesOn a fun a=>Bx.casesOn b fun b=>⟨fun ih lv m h n K=>ai (bd (ev ⟨X,[]⟩ x [] m) fun v=>v.B) false fun t=>cn t (a ih lv m h n K) (b ih lv m h n K)⟩)
 (fun f _ a=>Bx.casesOn a fun a=>⟨fun ih lv m h n K=>a ih lv m h n fun r=>Ex.casesOn r.e (K r) (fun i=>bif ak i f then K ⟨.nm,u0,r.m,r.h,r.n⟩else K r) (K r)⟩)
 (fun _ a=>Bx.casesOn a fun a=>⟨fun ih lv m h n K=>QDF (a ih lv) K lim m h n⟩)
 (fun _ _ _ _ _ _=>⟨fun _ _ _ _ _ _=>false⟩)
 (fun f=>⟨fun _ _ m h n K=>K ⟨.ex f,u0,m,h,n⟩⟩)
 (fun _ _=>⟨fun _ _ _ _ _ _=>false⟩)
 (fun _=>⟨fun _ _ m h n K=>K ⟨.nm,u0,m,h,n⟩⟩)
 (fun _=>⟨fun _ _ _ _ _ _=>false⟩)
 ⟨fun _ _ m h n K=>K ⟨.rt,u0,m,h,n⟩⟩
 (fun _=>⟨fun _ _ _ _ _ _=>false⟩) c
def QEJ(o:Option R)(r:R):Bool:=ai o false fun x=>same x.a r.a&&(qh x.h r.h&&aq x.n.n r.n.n)
def fnN(P:Program)(ih:Ih)(f:FuncId)(lv:Nat)(args:List A)(h:Tr B)(n:Po)(a:R):Bool:=match P.funcs[f]? with
 |none=>false
 |some fn=>match fn.body with
  |none=>false
  |some c=>Bx.casesOn (QCA P (bit (need c (orN (rsL fn.results.toList) 0))) c) fun k=>k ih (aD lv) (p6 args 0 .lf) h n fun r=>Ex.casesOn r.e (QEJ (bd (IL P fn.results.toList r.m r.h) fun vs=>rz (one vs) (PL lv r.h 100000 vs h) r.n) a) (fun _=>false) (QEJ (bd (IL P fn.results.toList r.m r.h) fun vs=>rz (one vs) (PL lv r.h 100000 vs h) r.n) a)
end
theorem QDH{o:Option R}{K:R->Bool}(h:kR o K=true):∃r,o=some r/\K r=true:=by
 cases o with
 |none=>cases h
 |some r=>exact⟨r,rfl,h⟩
theorem QC9{α:Type}{o:Option α}{k:α->Bool}(h:(ai o false k)=true):∃a,o=some a/\k a=true:=by
 cases o<;>simp_all
section
variable{P:Program}{β:Be}{h:Tr B}{n:Po}{w:World}{lv:Nat}
theorem QCb:∀ {l:List _} {es:List _},En β l es->∀en∈es,∃x∈l,V β x.1=some en.key/\V β x.2.1=some en.val/\en.born=x.2.2
 |[],[],_,en,h=>by cases h
 |(k,v,b)::r,e::es,⟨d,c,h3,a⟩,en,hm=>by
  rcases List.mem_cons.1 hm with rfl | hm
  ·simp_all
  ·obtain⟨x,hx,k⟩:=QCb a en hm
   grind
theorem QF6(k:Ok β h n w){q:Po}{l:List R}(hr:QJK q lv h n=some l){p:Pl}(hp:β q=some p):
  p.EW=0/\∃r∈l,∃v w',(∀ty,(Instr.next (.pointer (some ⟨p.ZH,0,none⟩)) false ty).run P w = .ok v w')/\V β r.a=some v/\Mv lv β h n w β r.h r.n w':=by
 obtain⟨b,h4,J⟩:=Qc hr;obtain⟨h5,H⟩:=Q9 J;have h5:=af h5;clear hr J;obtain⟨p',o,k1,k2,k3⟩:=k.ob q b h4;rw[hp]at k1;cases k1;split at H
 case h_2=>grind
 rename_i pm f c E e0;rw[e0]at k3;obtain⟨g3,Y,g4,rfl⟩:=k3;refine⟨g3,?_⟩;obtain⟨d,h6,F⟩:=Qc H;obtain⟨pm',om,m1,m2,m3⟩:=k.ob pm d h6;rw[g4]at m1;cases m1;split at F
 case h_2=>grind
 rename_i es i e1;rw[e1]at m3;obtain⟨g,rfl,m4⟩:=m3;obtain⟨h7,j⟩:=Q9 F;rw[aa,aw]at h7;have hsl:=af h7.1;have K:∀x∈g.toList,x.born<f:=fun x hx=>by
  obtain⟨y,hy,_,_,e⟩:=QCb m4 x hx;have:=af (h7.2 y hy);omega
 have U:(leftOf g c.reverse.toArray).toList=g.toList.filter fun e=>!c.contains e.born:=by
  simp[leftOf]
 have z:=Fi (fun b=>!c.contains b) m4;rw[<-U]at z;unfold QDA at j;have m:=fun ty=>run_next_at (P:=P) w ty p.ZH Y.ZH f E c.reverse.toArray g i k2 m2 K hsl;split at j
 ·rename_i L;rw[L]at z;have h0:(leftOf g c.reverse.toArray).size=0:=by
   cases hq:(leftOf g c.reverse.toArray).toList with
   |nil=>simp_all
   |cons _ _=>rw[hq]at z;trivial
  cases ae j;refine⟨_,List.mem_singleton.2 rfl,.tuple #[.bool false],w,fun ty=>?_,rfl,Mv.refl k⟩;rcases m ty with ⟨_,h⟩ | ⟨e,he,_⟩
  all_goals simp_all
 ·rename_i x l' t;rw[t]at z;cases ae j;rcases m 0 with ⟨h0,_⟩ | ⟨e,he,w1,hw1,hx⟩
  ·have h1:(leftOf g c.reverse.toArray).toList=[]:=List.eq_nil_of_length_eq_zero (by omega);rw[h1]at z;trivial
  ·obtain⟨y,hy,v1,v2,v3⟩:=QCb z e he;refine⟨_,List.mem_map.2 ⟨y,hy,rfl⟩,.tuple #[.bool true,e.key,e.val],aZ w1 p.ZH (.mapIter (some Y.ZH) f (c.reverse.toArray.push e.born) i),fun ty=>hx,?_,?_⟩
   ·unfold V;rw[Vr (show V β (.b true)=some (.bool true)from rfl) (Vr v1 (Vr v2 (show Vs β []=some []from rfl)))];rfl
   ·have hM:∀X:World,jD w X->X.heap=w.heap.setIfInBounds p.ZH (.mapIter (some Y.ZH) f (c.reverse.toArray.push e.born) i)->Mv lv β h n w β (h.put (some ⟨.mi pm f (y.2.2::c) i,b.lv⟩) q) n X:=fun X hn hh =>
     Mv.put k h4 hp h5 hh hn ⟨g3,Y,g4,by rw[v3];simp⟩
    rcases hw1 with rfl | rfl
    ·exact hM _ ⟨rfl,rfl,rfl,trivial⟩ rfl
    ·exact hM _ ⟨rfl,rfl,rfl,trivial⟩ rfl
end
end Go.Ev
namespace Go.Ev
open Go.RowKit
section
variable{P:Program}{X:Nat->Bool}{N:Nat}{ih:Ih}{F:Fence}
def CnS(P:Program)(ih:Ih)(X:Nat->Bool)(N:Nat)(F:Fence)(c:Code):Prop:=∀ {Q:Exit->Act->World->Prop} {K:R->Bool} {lv b0:Nat} {m:Tr A} {h:Tr B} {n:Po} {β:Be} {a:Act} {w:World},(QCA P X c).f ih lv m h n K=true->Sta X N b0 lv β m h n a w ->
 (∀r β' a' w',K r=true->Sta X N b0 lv β' r.m r.h r.n a' w'->Mv lv β h n w β' r.h r.n w'->Q (exO r.e) a' w')->c.wpIn F 0 P Q a w
theorem QES(hF:OpF P F)(z:IhS P ih){id:Nat}{g:Array Oper}{dr:Bool}(hN:LP N (.region id g dr)=true):CnS P ih X N F (.region id g dr):=by
 intro Q K lv b0 m h n β a w i s hQ;have b:(g.toList.all fun o=>dOk N o.dst)=true:=hN;have H:∀ {r:R},K r=true->∀β' t w',r.e = .nm->Sl X β' r.m _->t.tmps.size=N->t.defers=a.defers->Mv lv β h n w β' r.h r.n w'->Q .normal t w':=fun {r} E β' t w' L h2 h3 h4 M=>by
  have:=hQ r β' t w' E (s.mv M h2 h3 h4) M;rw[L]at this;exact this
 cases dr with
 |true=>cases i
 |false =>
  replace i:(QJ2 P X _).f ih lv m h n K=true:=i;refine wpIn_region_list ?_;unfold QJ2 at i;split at i
  ·rename_i d x ty Y aft j k;rw[k]at b;cases hf:Md P X _ j [d]with
   |mk f =>
   rw[hf]at i;obtain⟨l,L,h2⟩:=QC9 i;obtain⟨av,h3,h4⟩:=Qc L;obtain⟨q,h5,h6⟩:=Qc h4;obtain⟨h7,h8⟩:=Q9 h6;have h7:=ah h7;have hx:=QAC (RS.start s.sl) s.gl x av h3;rw[A.jC h5]at hx;obtain⟨p,hp,hx⟩:=vB hx;obtain⟨hb,y,hr1,v,w',e1,e2,M⟩:=QF6 (P:=P) s.ok h8 hp;obtain⟨r,h9,E⟩:=QDH (List.all_eq_true.1 h2 y hr1);have hpt:a.eval x = .pointer (some ⟨p.ZH,0,none⟩):=by grind[Pl.at]
   rw[aV,aa]at b;have hd:=af (show aq (d+1) N=true from b.1);rw[k];refine⟨fun f _=>hF.op.fn f,?_⟩;rw[Oper.semAt_plain F _ _ (fun c e=>by cases e)];have J:(execOp a.eval ⟨some d,.next x false,ty,Y,aft,none⟩).run P w = .ok (.value v) w':=by
    grind[execOp,Sem.run_bind,Result.andThen_ok,Sem.run_pure]
   rw[J];have hS:RS ⟨X,[d]⟩ β [y.a] m (a.put (some d) v).tmps:=by
    have:=(RS.start s.sl).push (by rw[s.sz];exact hd) e2;exact this
   have h9':(Md P X g.toList j [d]).f ih lv [y.a] m y.h y.n=some r:=by simp_all
   exact OE hF z h9' b.2 (by rw[L4];exact s.sz) M.ok (s.gl.mv M) (M.dC lv (aj _) s.lb) hS rfl fun β'' t U q1 q2 q3 q4 q5=>H E β'' t U q1 q2 q3 (by trivial) (M.trans q5)
  ·cases hf:Md P X _ _ []with
   |mk f =>
   rw[hf]at i;obtain⟨r,L,E⟩:=QDH i;exact OE hF z (show(Md P X _ _ []).f ih lv [] m h n=some r by simp_all) b s.sz s.ok s.gl s.lb (RS.start s.sl) rfl (H E)
theorem QKz{x y:Code}(hx:CnS P ih X N F x)(q:CnS P ih X N F y):CnS P ih X N F (.seq x y):=by
 intro Q K lv E m h n β a w t s i;refine wpIn_seq (hx t s fun r β' k w' b g M=>?_);cases c:r.e with
 |nm=>rw[c]at b;exact q b g fun o β'' j d p f M'=>i o β'' j d p f (M.trans M')
 |ex z=>rw[c]at b;have:=i r β' k w' b g M;rw[c]at this;exact this
 |rt=>rw[c]at b;have:=i r β' k w' b g M;rw[c]at this;exact this
theorem QIm{c:Operand}{x y:Code}(hx:CnS P ih X N F x)(f:CnS P ih X N F y):CnS P ih X N F (.cond c x y):=by
 intro Q K lv k m h n β a w g s b;obtain⟨t,j,d⟩:=QC9 g;obtain⟨v,h3,i⟩:=Qc j;have hv:=QAC (RS.start s.sl) s.gl c v h3;rw[A.QI4 i]at hv;refine wpIn_cond_split (V_b hv) (fun e=>?_) fun e=>?_
 ·subst e;exact hx d s b
 ·subst e;exact f d s b
theorem QGj{c:Nat}{x:Code}(hx:CnS P ih X N F x):CnS P ih X N F (.block c x):=by
 intro Q K lv o m h n β a w k s j;refine wpIn_block (hx k s fun r β' f w' b g M=>?_);cases d:r.e with
 |nm=>rw[d]at b;have:=j r β' f w' b g M;rw[d]at this;exact this
 |ex i =>
  rw[d]at b;replace b:(bif ak i c then K ⟨.nm,u0,r.m,r.h,r.n⟩else K r)=true:=b;show(if i=c then Q .normal f w' else Q _ f w');by_cases e:i=c
  ·subst e;rw[Nat.beq_refl]at b;rw[if_pos rfl];exact j ⟨.nm,u0,r.m,r.h,r.n⟩ β' f w' b g M
  ·have:ak i c=false:=by
    cases hb:ak i c<;>simp_all
   rw[this]at b;rw[if_neg e];have:=j r β' f w' b g M;rw[d]at this;exact this
 |rt=>rw[d]at b;have:=j r β' f w' b g M;rw[d]at this;exact this
theorem QEQ(x:Code)(lv:Nat)(m:Tr A)(h:Tr B)(n:Po)(K:R->Bool):(QCA P X (.loop x)).f ih lv m h n K=QDF ((QCA P X x).f ih lv) K lim m h n:=by
 show(Bx.casesOn (motive:=fun _=>Bx Cn) (QCA P X x) fun a=>⟨fun ih lv m h n K=>QDF (a ih lv) K lim m h n⟩).f ih lv m h n K=_;rfl
theorem QIl{x:Code}(hx:CnS P ih X N F x):CnS P ih X N F (.loop x):=by
 intro Q K lv q m h n β a w g s o;rw[QEQ]at g;generalize lim=L0 at g;refine wpIn_loop_ghost (fun k d w'=>∃β' m' h' n',QDF _ K k m' h' n'=true/\Sta X N q lv β' m' h' n' d w'/\Mv lv β h n w β' h' n' w') L0 ⟨β,m,h,n,g,s,Mv.refl s.ok⟩ ?_;rintro k E t ⟨β1,y,z,n1,g1,p,j⟩;cases k with
 |zero=>cases g1
 |succ k =>
  refine hx g1 p fun r β' d w' b f M=>?_;cases c:r.e with
  |nm =>
   rw[c]at b;exact⟨k,Nat.lt_succ_self k,β',r.m,r.h,r.n,b,f,j.trans M⟩
  |ex i=>rw[c]at b;have:=o r β' d w' b f (j.trans M);rw[c]at this;exact this
  |rt=>rw[c]at b;have:=o r β' d w' b f (j.trans M);rw[c]at this;exact this
theorem QIi(E:OpF P F)(p:IhS P ih)(c:Code)(j:LP N c=true):CnS P ih X N F c:=by
 induction c with
 |skip=>intro Q K lv g m h n β a w b s d;exact wpIn_skip (d ⟨.nm,u0,m,h,n⟩ β a w b s (Mv.refl s.ok))
 |region i k H=>grind[QES]
 |seq x y hx o =>
  simp_all[LP,aa,QKz]
 |cond x t e q z =>
  simp_all[LP,aa,QIm]
 |block i x hx=>exact QGj (hx j)
 |loop x hx=>exact QIl (hx j)
 |rangeFunc f ps x y hx o=>intro Q K lv g m h n β a w b;cases b
 |exit i=>intro Q K lv g m h n β a w b s d;exact wpIn_exit (d ⟨.ex i,u0,m,h,n⟩ β a w b s (Mv.refl s.ok))
 |scope x hx=>intro Q K lv g m h n β a w b;cases b
 |label l=>intro Q K lv g m h n β a w b s d;exact wpIn_label (d ⟨.nm,u0,m,h,n⟩ β a w b s (Mv.refl s.ok))
 |goto l=>intro Q K lv g m h n β a w b;cases b
 |ret=>intro Q K lv g m h n β a w b s d;exact wpIn_ret (d ⟨.rt,u0,m,h,n⟩ β a w b s (Mv.refl s.ok))
 |refuse s=>intro Q K lv g m h n β a w b;cases b
end
theorem QIT{o:Option R}{r:R}(h:QEJ o r=true):∃x,o=some x/\x.a=r.a/\Teq x.h r.h/\x.n.n<=r.n.n:=by
 cases o with
 |none=>cases h
 |some x =>
  have h:(same x.a r.a&&(qh x.h r.h&&aq x.n.n r.n.n))=true:=h;rw[aa,aa]at h;exact⟨x,rfl,Ml _ _ h.1,Rl h.2.1,af h.2.2⟩
theorem Mv.later{lv:Nat}{β β':Be}{h H:Tr B}{n F E:Po}{w w':World}(M:Mv lv β h n w β' H F w')(e:F.n<=E.n):Mv lv β h n w β' H E w' :=
 ⟨aE M.le e,M.old,⟨M.ok.ob,M.ok.inj,fun q J=>M.ok.top q (aE e J)⟩,M.os,M.tape,M.out,M.drawn,M.size,M.fr,M.src,M.dC⟩
theorem QKw{P:Program}{ih:Ih}(hS:StB P=true)(p:IhS P ih){f:FuncId}{lv:Nat}{args:List A}{h:Tr B}{n:Po}{i:R}(d:fnN P ih f lv args h n i=true):Mg P lv f args h n i:=by
 unfold fnN at d;split at d
 ·cases d
 ·rename_i fn y;split at d
  ·cases d
  ·rename_i c hb;obtain⟨hN,g⟩:=QG8 hS y hb;have j:=enters_of y g (by simp_all);intro β w vs o hk hg J;refine .inr ⟨j _ _,?_⟩;cases z:QCA P _ c with
   |mk k =>
   rw[z]at d;obtain⟨K,hK⟩:∃K:R->Bool,K=fun r=>Ex.casesOn r.e (QEJ (bd (IL P fn.results.toList r.m r.h) fun vs=>rz (one vs) (PL lv r.h 100000 vs h) r.n) i) (fun _=>false) (QEJ (bd (IL P fn.results.toList r.m r.h) fun vs=>rz (one vs) (PL lv r.h 100000 vs h) r.n) i):=⟨_,rfl⟩;have d:(QCA P (bit (need c (orN (rsL fn.results.toList) 0))) c).f ih (lv+1) (p6 args 0 .lf) h n K=true:=by simp_all
   have E:=fun q x hq=>aR (J q x hq);refine(callsIn_wide (n:=0)).1 (callsIn_of_wp_marks y hb trivial ?_);refine QIi (cN P) p c (cO (by grind) c hN) d ⟨QDY o _,rfl,hk,hg,E,trivial,aj _⟩ fun r β' a' w' a s M=>?_;have b:QEJ (bd _ fun vs=>rz (one vs) (PL lv r.h 100000 vs h) r.n) i=true->LeavesInM _ 0 P fn a'.tmps (CaP lv β h n w i) _ .returning w':=fun hi=>by
    obtain⟨x,h1,h2,h3,h4⟩:=QIT hi;obtain⟨rs,h5,h6⟩:=Qc h1;obtain⟨e1,e2,e3⟩:=YM h6;refine Cq s.ok s.df s.b0 fun L F Y X U k5=>?_;obtain⟨v,g1,g2⟩:=QFL F.ob s.sl (fun t ht=>vO c (gW ht)) h5;refine⟨v,g2,v,β',rfl,by simp_all,?_⟩;have MM:Mv lv β h n w β' (PL lv r.h 100000 rs h) r.n L:=(M.leave F Y X U).PL hk J _ _;rw[<-e2,<-e3]at MM;exact(MM.congr (fun _=>rfl) h3).later h4
   rw[hK]at a;have a:(Ex.casesOn r.e _ (fun _=>false) _)=true:=a;cases H:r.e with
   |nm=>rw[H]at a;exact b a
   |ex id=>simp_all
   |rt=>rw[H]at a;exact b a
theorem Fc{P:Program}{imp:FuncId->Bool}{a:kg}{met:TypeId->String->Option _}(b:StB P=true)(c:UK P a)(d:QIy P met){k:Nat}{m:Mm}(hm:fnN P (go P imp a met k) m.f m.lv m.args m.h m.n m.r=true):Mg P m.lv m.f m.args m.h m.n m.r :=
 QKw b (vP b c d k) hm
end Go.Ev
