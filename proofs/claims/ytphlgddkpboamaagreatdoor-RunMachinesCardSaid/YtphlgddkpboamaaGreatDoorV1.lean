/- Steps of the proof of the theorem in the last file. -/
import Derived.Test.YtphlgddkpboamaaGreatDoorV0
import Derived.Laws.Externs
import Derived.Lib.Bytealg
import Derived.Lib.Builder
import Derived.Lib.MakeNoZero
import Derived.Below
import Derived.Maps.RangeRun
set_option linter.all false
set_option maxHeartbeats 4000000
open Option.some renaming inj -> aa
open Bool renaming and_eq_true -> ae
open Nat renaming le_of_ble_eq_true -> af,eq_of_beq_eq_true -> ah,le_refl -> ao,beq -> aq,ble -> au,ble_eq_true_of_le -> aH,succ -> aK,shiftRight -> aV,mod -> aZ,lt_or_ge -> ba,le_trans -> bg
open Go.Extern renaming findNext -> ai,find -> ar
open Go.World renaming putObj_heap_other -> aj,putObj_heap_same -> aB,putObj_size -> aE
open UInt8 renaming ofNat -> ak
open Go.Lib renaming indexByte -> ax,countByte -> aY
open Option renaming casesOn -> ay
open List renaming all_eq_true -> aA,map_cons -> aW,all_cons -> aX
open Go.Extern.MathBitsCarry renaming m64 -> aC,three -> aQ,pair -> aR
open Go.Value renaming int -> aD,func -> bh
open Go.Extern.BytealgMakeNoZero renaming makeNoZero -> aF
open Go.Extern.BytealgIndexByte renaming indexByte -> aG
open Go.Fence renaming wide -> aM
open Go.Extern.BytealgCount renaming count -> aS
open Go.Extern.AbiNoEscape renaming same -> aT
namespace Go.Ev
open Go.RowKit
theorem Iu.lt{b0:Nat}{β:Be}{h:Tr B}{w:World}:∀ {l:List _},Iu b0 β h w l->∀d∈l,∃D,d={ target:=.collected D,args:=#[] }/\D<w.heap.size
 |_::_,⟨⟨D,h1,_,h3,_⟩,k⟩,d,hd=>by
  rcases List.mem_cons.1 hd with rfl | hd
  ·grind
  ·exact k.lt d hd
section
variable{P:Program}{X:Nat->Bool}{N b0:Nat}{lv:Nat}{ih:Ih}{F:Fence}{rf:Bool}
theorem Mv.hid{β:Be}{h:Tr B}{n:Po}{w:World}(k:Ok β h n w)(obj:Obj):Mv lv β h n w β h n (w.alloc obj):=by
 have hh:∀ {b:Nat},b<w.heap.size->(w.alloc obj).heap[b]?=w.heap[b]?:=fun {b} hb=>by
  show(w.heap.push obj)[b]?=_;grind
 refine⟨ao _,fun _ _=>rfl,⟨fun q b hb=>?_,k.inj,k.top⟩,rfl,rfl,rfl,trivial,by simp,fun b hb _=>hh hb,fun q c p h1 h2 _=>⟨q,c,p,h1,h2,rfl,fun h=>h⟩,fun _ _ h=>h⟩;obtain⟨p,o,g1,g2,g3⟩:=k.ob q b hb
 grind
theorem xR(hrf:rf=true->F=aM)(hih:ug P ih){f:Operand}{ps:Array Tmp}{asg body:Code}(hN:IV N (.rangeFunc f ps asg body)=true):dx P ih rf X N F (.rangeFunc f ps asg body):=by
 intro Q lv b0 m h n β a w r hr s hQ;replace hr:(gu rf<|bd (ev ⟨X,[]⟩ f [] m) fun v=>match v with
  |.f g c=>gu _<|bd (ih _) fun r=>bd (r.h.get n) fun b=>gu _ _
  |_=>none)=some r:=hr
 obtain⟨h1,hr1⟩:=Q5 hr;clear hr;obtain rfl:=hrf h1;obtain⟨v,h2,hr2⟩:=QX hr1;clear hr1;split at hr2
 ·rename_i g cv;obtain⟨h3,hr3⟩:=Q5 hr2;obtain⟨r1,h4,hr4⟩:=QX hr3;obtain⟨b,h5,hr5⟩:=QX hr4;obtain⟨h6,hr6⟩:=Q5 hr5;clear hr2 hr3 hr4 hr5;have h6:=af h6;split at hr6
  ·rename_i m' X' ps' as' bd' hbo;cases aa hr6;obtain⟨lb,l1,l2⟩:=V_f (QB9 (RS.start s.sl) s.gl f _ h2);refine wpIn_rangeFunc fun fn _=>?_;obtain⟨r0,hr0⟩:∃r0:Loop,r0={ state:=.ready,pending:=none,fn,tmps:=a.tmps,params:=ps,assign:=asg,body,defers:=w.heap.size }:=⟨_,rfl⟩;have M1:=Mv.hid (lv:=lv) s.ok (.deferred (some []));have hsz1:(w.alloc (.deferred (some []))).heap.size=w.heap.size+1:=by simp
   have M2:=Mv.new (w':=(w.alloc _).alloc _) M1.ok lv lv (x:=.lp m X _ asg body) (sz:=0) (ao _) rfl ⟨rfl,rfl,rfl,trivial⟩
    ⟨r0,rfl,by rw[hr0],by rw[hr0],by rw[hr0],by rw[hr0],by rw[hr0],by rw[hr0];exact s.sl,by rw[hr0];show IV _ _=true;rw[s.sz];exact hN⟩
   have M12:=M1.trans M2;have hbn:=Ke β n ⟨(w.alloc (.deferred (some []))).heap.size,0,0⟩;have hvs:Vs (Cu β n ⟨(w.alloc (.deferred (some []))).heap.size,0,0⟩) (.y n::cv)=some (.func (.yield (w.heap.size+1)) #[] #[]::lb):=by
    refine Vk ?_ (Ch (M12.be s.ok) _ _ l1);show Option.map _ _=_;simp_all
   rcases hih _ _ h4 _ _ _ hvs M2.ok (s.gl.mv M12) (M12.yh lv (ao _) s.lb)with ⟨k1,_⟩ | ⟨k1,k2⟩
   ·simp_all
   have eargs:(bh (.yield (w.heap.size+1)) #[] #[]::lb).toArray=#[.func (.yield (w.heap.size+1)) #[] #[]]++lb.toArray:=by simp
   refine⟨w.heap.size+1,[{ target:=.collected w.heap.size,args:=#[] }],(w.alloc (.deferred (some []))).alloc (.loop r0),{ target:=.fn (.func g) lb.toArray,args:=#[.func (.yield (w.heap.size+1)) #[] #[]] },(w.alloc (.deferred (some []))).alloc (.loop r0),g,
    (bh _ #[] #[]::lb).toArray,(w.alloc _).alloc _,?_,?_,fun _ _=>trivial,?_,fun e=>(by cases e),(callsIn_wide.2 k2).mono ?_⟩
   ·rw[hr0];simp[run_enterLoop_outer]
   ·simp only[resolve,l2];simp[go_sem]
   ·grind[invoke]
   ·rintro e w' ⟨v',β',rfl,g3,M3⟩;obtain⟨p,o,q1,q2,q3⟩:=M3.ok.ob n b h5;have hp:p=⟨(w.alloc (.deferred (some []))).heap.size,0,0⟩:=by
     rw[M3.old n (by simp[Po.cM]),hbn]at q1;grind
    rw[hbo]at q3;obtain⟨rr,rfl,s1,s2,_⟩:=q3;have hpb:p.Y1=w.heap.size+1:=by grind
    rw[hpb]at q2;have M4:=Mv.gone (w':=w'.putObj (w.heap.size+1) (.loop { rr with state:=.exhausted })) M3.ok h5 q1 h6 (by simp) (fun x hx=>by
     rw[hpb]at hx;show(w'.heap.setIfInBounds _ _)[x]?=_
     grind) ⟨rfl,rfl,rfl,trivial⟩
    have M:=(M12.trans M3).trans M4;have hnone:∀q x p,(h.put (some ⟨.lp m X ps.toList asg body,lv⟩) n).get q=some x->Cu β n ⟨(w.alloc (.deferred (some []))).heap.size,0,0⟩ q=some p->p.Y1≠w.heap.size:=fun q x p hq hp'=>by
     rcases Tr.KK _ hq with ⟨rfl,_⟩ | ⟨hne,hq⟩
     ·grind
     ·rw[Gn β _ hne]at hp';have:=s.ok.lt hq hp';omega
    have hsz2:((w.alloc (.deferred (some []))).alloc (.loop r0)).heap.size=w.heap.size+2:=by simp
    refine⟨none,w'.putObj (w.heap.size+1) (.loop { rr with state:=.exhausted }),?_,?_⟩
    ·grind[run_endLoop]
    ·refine hQ β' { a with defers:=[{ target:=.collected w.heap.size,args:=#[] }]++a.defers } _ ⟨s.sl.le (M.be s.ok),s.sz,M.ok,s.gl.mv M,M.yh lv (ao _) s.lb,⟨⟨w.heap.size,rfl,s.b0,?_,fun q x p hq hp' e=>?_,fun d' hd' e=>?_⟩,s.df.mv M⟩,bg s.b0 M.size⟩ M
     ·show(w'.heap.setIfInBounds _ _)[w.heap.size]?=_;rw[Array.getElem?_setIfInBounds_ne (by omega),M3.fr w.heap.size (by omega) fun q x p hq _ hp'=>hnone q x p hq hp'];show((w.heap.push _).push _)[w.heap.size]?=_
      grind
     ·have hq':r1.h.get q=some x:=by
       grind[Tr.KK]
      obtain⟨q0,c0,p0,t1,t2,t3,_⟩:=M3.src q x p hq' hp' (by omega)
      grind
     ·obtain⟨D,e1,e2⟩:=s.df.lt d' hd'
      grind
  trivial
 trivial
theorem dF(hF:OpF P F)(hrf:rf=true->F=aM)(hih:ug P ih)(c:Code)(hN:IV N c=true):dx P ih rf X N F c:=by
 induction c with
 |skip=>intro Q lv b0 m h n β a w r hr s hQ;cases aa (show some (⟨.nm,u0,m,h,n⟩:R)=some r from hr);exact wpIn_skip (hQ β a w s (Mv.refl s.ok))
 |region id ops dr=>grind[QAC]
 |seq x y hx hy =>
  simp_all[IV,ae,QHL]
 |cond x t e ht he =>
  simp_all[IV,ae,QEa]
 |block id x hx=>exact QCM (hx hN)
 |loop x hx=>exact QEZ (hx hN)
 |rangeFunc f ps x y hx hy=>grind[xR]
 |exit id=>intro Q lv b0 m h n β a w r hr s hQ;cases aa (show some (⟨.ex id,u0,m,h,n⟩:R)=some r from hr);exact wpIn_exit (hQ β a w s (Mv.refl s.ok))
 |scope x hx=>exact QCL hrf (hx hN)
 |label l=>intro Q lv b0 m h n β a w r hr s hQ;cases aa (show some (⟨.nm,u0,m,h,n⟩:R)=some r from hr);exact wpIn_label (hQ β a w s (Mv.refl s.ok))
 |goto l=>intro Q lv b0 m h n β a w r hr;cases hr
 |ret=>intro Q lv b0 m h n β a w r hr s hQ;cases aa (show some (⟨.rt,u0,m,h,n⟩:R)=some r from hr);exact wpIn_ret (hQ β a w s (Mv.refl s.ok))
 |refuse s=>intro Q lv b0 m h n β a w r hr;cases hr
end
end Go.Ev
namespace Go.Ev
open Go.RowKit
theorem y8{N N':Nat}(h:N<=N'){d:Option Tmp}(k:kf N d=true):kf N' d=true:=by
 cases d with
 |none=>rfl
 |some d=>exact aH (bg (af (show au _ N=true from k)) h)
theorem QBX{N N':Nat}(h:N<=N')(c:Code)(hN:IV N c=true):IV N' c=true:=by
 induction c with
 |skip=>rfl
 |region id ops dr =>
  have hN:(ops.toList.all fun o=>kf N o.dst)=true:=hN;show(ops.toList.all fun o=>kf N' o.dst)=true
  grind[aA,y8]
 |seq x y hx hy =>
  have hN:(IV N x&&IV N y)=true:=hN;show(IV N' x&&IV N' y)=true;simp_all
 |cond x t e ht he =>
  have hN:(IV N t&&IV N e)=true:=hN;show(IV N' t&&IV N' e)=true;simp_all
 |block id x hx=>exact hx hN
 |loop x hx=>exact hx hN
 |rangeFunc f ps x y hx hy =>
  have hN:((ps.toList.all fun p=>kf N _)&&(IV N x&&IV N y))=true:=hN;rw[ae,ae,aA]at hN;show((ps.toList.all fun p=>kf N' _)&&(IV N' x&&IV N' y))=true;rw[hx hN.2.1,hy hN.2.2,List.all_eq_true.2 fun p hp=>y8 h (hN.1 p hp)];rfl
 |exit id=>rfl
 |scope x hx=>exact hx hN
 |label l=>rfl
 |goto l=>rfl
 |ret=>rfl
 |refuse s=>rfl
theorem kI:∀(l:List A) (k:Nat) (m:Tr A) (t:Nat) (b:A),(dO l k m).get (po t)=some b->(k<=t/\l[t-k]?=some b)\/((t<k\/k+l.length<=t)/\m.get (po t)=some b)
 |[],k,m,t,b,h=>.inr ⟨by grind,h⟩
 |a::l,k,m,t,b,h=>by
  rcases kI l _ _ t b h with ⟨h1,h2⟩ | ⟨h1,h2⟩
  ·grind
  ·rcases Tr.KK _ h2 with ⟨e,e2⟩ | ⟨e,e2⟩
   ·have:=vi e;simp_all
   grind
theorem QEk{X:Nat->Bool}{β:Be}{l:List A}{vs:List Value}(h:Vs β l=some vs)(N:Nat):Sl X β (dO l 0 .lf) (vs.toArray++Array.replicate (N-vs.toArray.size) undef):=fun t b _ hb=>by
 rcases kI l 0 .lf t b hb with ⟨_,h2⟩ | ⟨_,h2⟩
 ·obtain⟨v,h3,h4⟩:=Uf h h2
  grind
 grind[Tr.jz]
theorem Ok.QHD{β:Be}{h:Tr B}{n:Po}{w:World}(k:Ok β h n w){D:Nat}(hD:∀q x p,h.get q=some x->β q=some p->p.Y1≠D)(o:Obj):Ok β h n (w.putObj D o):=by
 refine⟨fun q b hb=>?_,k.inj,k.top⟩;obtain⟨p,o',g1,g2,g3⟩:=k.ob q b hb;refine⟨p,o',g1,?_,g3⟩;show(w.heap.setIfInBounds _ _)[p.Y1]?=_
 grind
theorem qV{P:Program}{fn:Func}{tmps:Array Value}{R:Ending->World->Prop}{b0:Nat}{β:Be}{h:Tr B}{n:Po}:∀ {ds:List _} {w:World},Ok β h n w->Iu b0 β h w ds->b0<=w.heap.size ->
  (∀wf,Ok β h n wf->Cm w wf->wf.heap.size=w.heap.size->(∀b,b<b0->wf.heap[b]?=w.heap[b]?)->(∀b,(∃q x p,h.get q=some x/\β q=some p/\p.Y1=b)->wf.heap[b]?=w.heap[b]?)->∃v,(results fn tmps).run P wf = .ok v wf/\R (.returned v) wf)->LeavesInM aM 0 P fn tmps R ds .returning w
 |[],w,k,_,_,hf=>hf w k (Cm.refl w) rfl (fun _ _=>rfl) (fun _ _=>rfl)
 |d::ds,w,k,⟨⟨D,h1,h2,h3,h4,h5⟩,kk⟩,hb,hf=>by
  subst h1;refine⟨fun e=>(by cases e),.inl ⟨D,_,rfl,run_takeDeferred h3,?_⟩⟩;have hne:∀ {l:List Deferred},(∀d'∈l,d'≠{ target:=.collected D,args:=#[] })->Iu b0 β h w l->Iu b0 β h (w.putObj D (.deferred none)) l:=by
   intro l
   induction l with
   |nil=>exact fun _ _=>trivial
   |cons d' l ih =>
    rintro hd ⟨⟨D',e1,e2,e3,e4,e5⟩,e6⟩;refine⟨⟨D',e1,e2,?_,e4,e5⟩,ih (fun x hx=>hd x (by grind)) e6⟩;have:D≠D':=by grind
    show(w.heap.setIfInBounds _ _)[D']?=_;simp_all
  refine qV (k.QHD h4 _) (hne h5 kk) (by simp_all) fun wf a1 a2 a3 a4 a5=>hf wf a1 ⟨a2.os,a2.tape,a2.out,a2.drawn⟩ (by simp_all) (fun b hb'=>?_) fun b hbb=>?_
  ·rw[a4 b hb'];show(w.heap.setIfInBounds _ _)[b]?=_
   grind
  ·rw[a5 b hbb];obtain⟨q,x,p,g1,g2,rfl⟩:=hbb;show(w.heap.setIfInBounds _ _)[p.Y1]?=_
   grind
end Go.Ev
namespace Go.Ev
open Go.RowKit
theorem AE{loc m t:Nat}{x:Operand}(h:bit m t=true):bit (orT loc x m) t=true:=by
 unfold orT;split
 ·rw[X6];split
  ·exact h
  ·rw[Sw,h];rfl
 omega
theorem QBE{loc m t:Nat}{x:Option Nat}(h:bit m t=true):bit (orO loc x m) t=true:=by
 unfold orO
 grind[AE]
theorem yY{loc m t:Nat}:∀ {l:List _},bit m t=true->bit (orL loc l m) t=true
 |[],h=>h
 |x::l,h=>AE (yY h)
theorem yX{m t:Nat}:∀ {l:List Nat},bit m t=true->bit (orN l m) t=true
 |[],h=>h
 |x::l,h=>by
  show bit (Nat.lor (orN l m) _) t=true;rw[Sw,yX h];rfl
theorem pe{m t:Nat}:∀ {l:List Nat},t∈l->bit (orN l m) t=true
 |x::l,h=>by
  show bit (Nat.lor (orN l m) _) t=true;rw[Sw];rcases List.mem_cons.1 h with rfl | h
  ·grind[xb]
  ·rw[pe h];rfl
theorem qT{ops:List Oper}{t:Nat}:∀ {l:List Oper} {loc m:Nat},bit m t=true->bit (outs l ops loc m) t=true
 |[],_,_,h=>h
 |o::l,loc,m,h=>by
  refine qT (m:=match qY ops o with | some g=>orO loc g.1 _ | none=>orL loc _ m) ?_
  grind[QBE,yY]
theorem cL{t:Nat}(c:Code):∀ {m:Nat},bit m t=true->bit (need c m) t=true:=by
 induction c with
 |skip=>exact fun h=>h
 |region id ops dr=>exact fun h=>qT h
 |seq x y hx hy=>exact fun h=>hy (hx h)
 |cond x a b ha hb=>exact fun h=>AE (hb (ha h))
 |block id x hx=>trivial
 |loop x hx=>trivial
 |rangeFunc f ps x y hx hy=>exact fun h=>AE (yX (hy (hx h)))
 |exit id=>exact fun h=>h
 |scope x hx=>trivial
 |label l=>exact fun h=>h
 |goto l=>exact fun h=>h
 |ret=>exact fun h=>h
 |refuse s=>exact fun h=>h
end Go.Ev
namespace Go.Ev
open Go.RowKit
def u9(tmps:Array Value):ResultVar->Sem Value
 |.tmp t=>pure (tmps.getD t undef)
 |.cell a t=>do loadVar t (<-asAddr (tmps.getD a undef))
section
variable{P:Program}{X:Nat->Bool}{β:Be}{h:Tr B}{w:World}{m:Tr A}{tmps:Array Value}
theorem pP(hm:Ob β h w)(hs:Sl X β m tmps):∀ {rs:List _} {vs:List A},(∀t∈rsL rs,X t=true)->OD P rs m h=some vs ->
  ∃us,Vs β vs=some us/\(rs.mapM (u9 tmps)).run P w = .ok us w
 |[],vs,_,hr=>by cases aa hr;exact⟨[],rfl,rfl⟩
 |r::rs,vs,hX,hr=>by
  obtain⟨a,h1,h2⟩:=QX (show bd _ (fun v=>bd _ fun l=>some _)=some vs from hr);obtain⟨l,h3,h4⟩:=QX h2;cases aa h4;obtain⟨us,g1,g2⟩:=pP hm hs (fun t ht=>hX t (by grind[rsL,List.mem_cons_of_mem])) h3;have one:∃v,V β a=some v/\(u9 tmps r).run P w = .ok v w:=by
   cases r with
   |tmp t =>
    obtain⟨v,k1,k2⟩:=hs t a (hX t (by simp[rsL])) h1;simp_all[u9]
   |cell t T =>
    obtain⟨b,k0,h5⟩:=QX h1;obtain⟨q,h6,h7⟩:=QX h5;obtain⟨v,k1,k2⟩:=hs t b (hX t (by simp[rsL])) k0;rw[A.Ck h6]at k1;obtain⟨p,hp,rfl⟩:=qp k1;obtain⟨u,k3,k4⟩:=yj hm h7 hp;simp_all[u9,asAddr]
  obtain⟨v,k1,k2⟩:=one;refine⟨v::us,Vk k1 g1,?_⟩;simp_all
theorem QIk{vs:List A}{us:List Value}(h:Vs β vs=some us):V β (one vs)=some (if h:us.toArray.size=1 then us.toArray[0]else .tuple us.toArray):=by
 match vs,us,h with
 |[],us,h=>cases aa h;rfl
 |[a],us,h =>
  obtain⟨v,r,h1,h2,rfl⟩:=XI h;have:=KD h2;subst this;trivial
 |a::b::l,us,h =>
  obtain⟨v,r,h1,h2,rfl⟩:=XI h;obtain⟨v',r',h1',h2',rfl⟩:=XI h2;show V β (.t _)=_;unfold V;simp_all
theorem QF4(hm:Ob β h w)(hs:Sl X β m tmps){fn:Func}{vs:List A}(hX:∀t∈rsL fn.results.toList,X t=true)(hr:OD P fn.results.toList m h=some vs):
  ∃v,V β (one vs)=some v/\(results fn tmps).run P w = .ok v w:=by
 obtain⟨us,g1,g2⟩:=pP hm hs hX hr;refine⟨_,QIk g1,?_⟩;have e:results fn tmps=(do
   let vs <-fn.results.mapM (u9 tmps)
   pure _):=rfl
 have e2:(fn.results.mapM (u9 tmps)).run P w = .ok us.toArray w:=by
  rw[Array.mapM_eq_mapM_toList];simp_all
 simp_all
end
end Go.Ev
namespace Go.Ev
open Go.RowKit
theorem NX{lv:Nat}{h1:Tr B}:∀ {f:Nat} {l:List A} {h:Tr B} {q:Po} {b:B},(TN lv h1 f l h).get q=some b->h.get q=some b\/(h.get q=none/\∃b1,h1.get q=some b1/\b=⟨b1.o,lv⟩/\lv+1<=b1.lv)
 |0,_,_,_,_,h=>.inl h
 |f+1,[],_,_,_,h=>.inl h
 |f+1,a::r,h,q,b,hg=>by
  have nm:∀n:Po,(ay (motive:=fun _=>Tr B) (h.get n) (ay (h1.get n) (TN lv h1 f r h) fun b=>cn _ _ _) fun _=>TN lv h1 f r h).get q=some b->h.get q=some b\/(h.get q=none/\∃b1,h1.get q=some b1/\b=⟨b1.o,lv⟩/\lv+1<=b1.lv):=fun n hn=>by
   cases e:h.get n with
   |some x=>rw[e]at hn;exact NX hn
   |none =>
    rw[e]at hn;cases e1:h1.get n with
    |none=>rw[e1]at hn;exact NX hn
    |some b1 =>
     rw[e1]at hn;replace hn:(cn (au (aK lv) b1.lv) (TN lv h1 f (sub b1.o++r) (h.put (some ⟨b1.o,lv⟩) n)) (TN lv h1 f r h)).get q=some b:=hn;rw[X6]at hn;split at hn
     case isFalse=>exact NX hn
     rcases NX hn with h2 | ⟨h2,h3⟩
     ·rcases Tr.KK _ h2 with ⟨rfl,e2⟩ | ⟨_,e2⟩
      all_goals simp_all
     grind[Tr.UJ]
  cases a with
  |p n o=>exact nm n hg
  |l n o a b=>exact nm n hg
  |o n o a b=>exact nm n hg
  |m n=>exact nm n hg
  |_=>exact NX (f:=f) hg
end Go.Ev
namespace Go.Ev
open Go.RowKit
theorem Mv.leave{lv:Nat}{β β':Be}{h h':Tr B}{n n':Po}{w w' wf:World}(M:Mv lv β h n w β' h' n' w')(k:Ok β' h' n' wf)(hn:Cm w' wf)(hs:wf.heap.size=w'.heap.size)(hf:∀b,b<w.heap.size->wf.heap[b]?=w'.heap[b]?):Mv lv β h n w β' h' n' wf :=
 ⟨M.le,M.old,k,hn.os.trans M.os,hn.tape.trans M.tape,hn.out.trans M.out,trivial,by rw[hs];exact M.size,fun b hb hh=>(hf b hb).trans (M.fr b hb hh),M.src,M.yh⟩
theorem uV{P:Program}{ih:Ih}(hih:ug P ih){f:FuncId}{fn:Func}{c:Code}(hf:P.funcs[f]?=some fn)(hb:fn.body=some c)(hN:IV fn.ntmps c=true){lv:Nat}{args:List A}{h:Tr B}{n:Po}{β:Be}{w:World}{vs:List Value}{r:R}{rs:List A}
  (h1:(CW P true (bit (need c (orN (rsL fn.results.toList) 0))) c).f ih lv (dO args 0 .lf) h n=some r) (h2:OD P fn.results.toList r.m r.h=some rs) (h3:∀id,r.e≠.ex id) (hvs:Vs β args=some vs) (hk:Ok β h n w) (hg:Gl β n) (hL:Lb lv h) {R:Ending->World->Prop}
  (hR:∀v β' wf,V β' (one rs)=some v->Mv lv β h n w β' r.h r.n wf->R (.returned v) wf):Calls P f vs.toArray w R:=by
 refine(callsIn_wide (n:=0)).1 (callsIn_of_wp_marks hf hb trivial ?_);refine dF (QBU P) (fun _=>rfl) hih c (QBX (by grind) c hN) h1 ⟨QEk hvs _,rfl,hk,hg,hL,trivial,ao _⟩ fun β' a' w' s M=>?_;have fin:LeavesInM _ 0 P fn _ R _ .returning w':=qV s.ok s.df s.b0 fun wf k1 k2 k3 k4 k5=>by
  obtain⟨v,g1,g2⟩:=QF4 k1.ob s.sl (fun t ht=>cL c (pe ht)) h2;exact⟨v,g2,hR v β' wf g1 (M.leave k1 k2 k3 k4)⟩
 cases he:r.e with
 |nm=>exact fin
 |ex id=>simp_all
 |rt=>exact fin
end Go.Ev
namespace Go.Ev
open Go.RowKit
theorem Mv.TN{lv:Nat}{β β':Be}{h h1:Tr B}{n n':Po}{w w':World}(M:Mv (lv+1) β h n w β' h1 n' w')(k:Ok β h n w)(hL:Lb lv h)(f:Nat)(l:List A):Mv lv β h n w β' (Ev.TN lv h1 f l h) n' w':=by
 have hno:∀ {q x p},h1.get q=some x->lv+1<=x.lv->β' q=some p->w.heap.size<=p.Y1:=fun {q x p} h2 h3 h4=>by
  rcases ba p.Y1 _ with g | g
  ·obtain⟨q0,c0,p0,g1,_,_,g4⟩:=M.src q x p h2 h4 g;have:=hL q0 c0 g1;omega
  omega
 have hfr:∀b,b<w.heap.size->w'.heap[b]?=w.heap[b]?:=fun b hb=>M.fr b hb fun q c p hq hc _=>by have:=hL q c hq;omega
 have hnew:∀ {q b},(Ev.TN lv h1 f l h).get q=some b->(h.get q=some b)\/(∃b1,h1.get q=some b1/\b=⟨b1.o,lv⟩/\∀p,β' q=some p->w.heap.size<=p.Y1):=fun {q b} hq=>by
  grind[NX]
 have hold:∀ {q b},h.get q=some b->β' q=β q:=fun {q b} hq=>M.old q (k.nm hq);refine⟨M.le,M.old,⟨fun q b hq=>?_,fun q q' b b' p p' hq hq' hp hp' e=>?_,M.ok.top⟩,M.os,M.tape,M.out,M.drawn,M.size,fun b hb _=>hfr b hb,fun q c p hq hp hb=>?_,fun K hK hh q c hq=>?_⟩
 ·rcases hnew hq with g | ⟨b1,g1,rfl,_⟩
  ·obtain⟨p,o,g1,g2,g3⟩:=k.ob q b g;exact⟨p,o,by simp_all,by grind,g3.le (M.be k)⟩
  ·exact M.ok.ob q b1 g1
 ·rcases hnew hq with g | ⟨b1,g1,_,g3⟩<;>rcases hnew hq' with g' | ⟨b1',g1',_,g3'⟩
  ·exact k.inj q q' b b' p p' g g' (by simp_all) (by simp_all) e
  ·have:=k.lt g (by rw[<-hold g];exact hp);grind
  ·have:=k.lt g' (by rw[<-hold g'];omega);grind
  ·exact M.ok.inj q q' b1 b1' p p' g1 g1' hp hp' e
 all_goals grind
def xp(P:Program)(ora:Ora):Prop:=∀f o,ora f=some o->∀lv args h n r,o.f args h n lv=some r->N2 P lv f args h n r
noncomputable def StB (P:Program):Bool:=P.funcs.toList.all fun fn=>match fn.body with | none=>true | some c=>IV fn.ntmps c&&!(fn.name == "runtime.NumGoroutine")
theorem QHi{P:Program}(h:StB P=true){f:FuncId}{fn:Func}{c:Code}(hf:P.funcs[f]?=some fn)(hb:fn.body=some c):IV fn.ntmps c=true/\(fn.name == "runtime.NumGoroutine")=false:=by
 grind[StB,aA,List.mem_of_getElem]
theorem exR{r:R}{k:Option R}{r':R}(h:(Ex.casesOn r.e k (fun _=>none) k)=some r'):(∀id,r.e≠.ex id)/\k=some r':=by
 cases he:r.e<;>simp_all[id]
theorem QFU{P:Program}{imp:FuncId->Bool}{ih:Ih}(hS:StB P=true)(hih:ug P ih){f:FuncId}{lv:Nat}{args:List A}{h:Tr B}{n:Po}{r:R}(hr:(fbD P imp f).f ih lv args h n=some r):N2 P lv f args h n r:=by
 unfold fbD at hr;split at hr
 ·cases hr
 ·rename_i fn hf;split at hr
  ·cases hr
  ·rename_i c hb;obtain⟨hN,hname⟩:=QHi hS hf hb;have hent:=enters_of hf hname (by simp_all);intro β w vs hvs hk hg hL;refine .inr ⟨hent _ _,?_⟩;rw[cond_eq_ite]at hr;split at hr
   ·have hr1:bd ((CW P true (bit (need c (orN (rsL fn.results.toList) 0))) c).f ih lv (dO args 0 .lf) h n) (fun r=>Ex.casesOn r.e (bd (OD P fn.results.toList r.m r.h) fun vs=>rz (one vs) r.h r.n) (fun _=>none) (bd (OD P fn.results.toList r.m r.h) fun vs=>rz (one vs) r.h r.n))=some r:=by
     omega
    obtain⟨r1,h1,h2⟩:=QX hr1;obtain⟨h3,h4⟩:=exR h2;obtain⟨rs,h5,h6⟩:=QX h4;obtain⟨e1,e2,e3⟩:=YE h6;refine uV hih hf hb hN h1 h5 h3 hvs hk hg hL fun v β' wf g1 M=>⟨v,β',rfl,by simp_all,by simp_all⟩
   ·have hr1:bd ((CW P true (bit (need c (orN (rsL fn.results.toList) 0))) c).f ih (aK lv) (dO args 0 .lf) h n) (fun r=>Ex.casesOn r.e (bd (OD P fn.results.toList r.m r.h) fun vs=>rz (one vs) (TN lv r.h 100000 vs h) r.n) (fun _=>none) (bd (OD P fn.results.toList r.m r.h) fun vs=>rz (one vs) (TN lv r.h 100000 vs h) r.n))=some r:=by
     omega
    obtain⟨r1,h1,h2⟩:=QX hr1;obtain⟨h3,h4⟩:=exR h2;obtain⟨rs,h5,h6⟩:=QX h4;obtain⟨e1,e2,e3⟩:=YE h6;refine uV hih hf hb hN h1 h5 h3 hvs hk hg (fun q x hq=>Nat.le_succ_of_le (hL q x hq)) fun v β' wf g1 M=>⟨v,β',rfl,by simp_all,?_⟩;rw[e2,e3];exact M.TN hk hL _ _
theorem QFT{P:Program}{imp:FuncId->Bool}{ora:Ora}{ih:Ih}(hS:StB P=true)(hO:xp P ora)(hih:ug P ih){f:FuncId}{lv:Nat}{args:List A}{h:Tr B}{n:Po}{r:R}(hr:(fnD P imp ora f).f ih lv args h n=some r):N2 P lv f args h n r:=by
 unfold fnD at hr;split at hr
 ·rename_i o ho;cases o with
  |mk o =>
   replace hr:ay _ _ some=some r:=hr;cases ho2:o args h n lv with
   |none=>rw[ho2]at hr;grind[QFU]
   |some x=>rw[ho2]at hr;rw[<-aa hr];exact hO f _ ho lv args h n x ho2
 grind[QFU]
end Go.Ev
namespace Go.Ev
open Go.RowKit
theorem pZ{X:Nat->Bool}{β:Be}:∀ {ps:List Tmp} {l:List A} {m m':Tr A} {vs:List Value} {ts:Array Value},QDm ps l m=some m'->Vs β l=some vs->Sl X β m ts->(∀p∈ps,p<ts.size) ->
  ps.length=vs.length/\Sl X β m' ((ps.zip vs).foldl (fun ts (x:Tmp×Value)=>ts.setIfInBounds x.1 x.2) ts)/\((ps.zip vs).foldl (fun ts (x:Tmp×Value)=>ts.setIfInBounds x.1 x.2) ts).size=ts.size
 |[],l,m,m',vs,ts,h,hv,hs,hp=>by
  cases l with
  |nil=>cases aa (show some m=some m' from h);cases hv<;>simp_all
  |cons a l=>cases h
 |p::ps,l,m,m',vs,ts,h,hv,hs,hp=>by
  cases l with
  |nil=>cases h
  |cons a l =>
   have h:QDm ps l _=some m':=h;obtain⟨v,r,h1,h2,rfl⟩:=XI hv;have hs':Sl X β (m.put (some a) (po p)) (ts.setIfInBounds p v):=fun t b hX hb=>by
    rcases Tr.KK _ hb with ⟨e,e2⟩ | ⟨e,e2⟩
    ·grind[vi,aa]
    ·obtain⟨u,g1,g2⟩:=hs t b hX e2
     grind
   obtain⟨k1,k2,k3⟩:=pZ h h2 hs' (fun q hq=>by simp_all);simp_all
section
variable{lv:Nat}{β1 β2:Be}{h1 h2:Tr B}{n1 n2:Po}{w1 w3:World}{l:Po}{b2:B}{p:Pl}{obj busy:Obj}
theorem Ok.take(k1:Ok β1 h1 n1 w1)(hl:h1.get l=some b2)(hp:β1 l=some p)(o:Obj):Ok β1 (h1.put none l) n1 (w1.putObj p.Y1 o):=by
 have hn:∀ {q x},(h1.put none l).get q=some x->q≠l/\h1.get q=some x:=fun {q x} hq=>by
  grind[Tr.KK]
 refine⟨fun q b hq=>?_,fun q q' b b' p p' hq hq'=>k1.inj q q' b b' p p' (hn hq).2 (hn hq').2,k1.top⟩;obtain⟨hne,hq⟩:=hn hq;obtain⟨p',o',g1,g2,g3⟩:=k1.ob q b hq;refine⟨p',o',g1,?_,g3⟩;rw[aj fun e=>hne (k1.inj q l b b2 p' p hq hl g1 hp e)];exact g2
theorem Mv.round(k1:Ok β1 h1 n1 w1)(hl:h1.get l=some b2)(hp:β1 l=some p)(ho:w1.heap[p.Y1]?=some obj)(M:Mv lv β1 (h1.put none l) n1 (w1.putObj p.Y1 busy) β2 h2 n2 w3):Mv lv β1 h1 n1 w1 β2 (h2.put (some b2) l) n2 (w3.putObj p.Y1 obj):=by
 have hlt:=(Array.getElem?_eq_some_iff.1 ho).1;have hn:∀ {q x},(h1.put none l).get q=some x->q≠l/\h1.get q=some x:=fun {q x} hq=>by
  grind[Tr.KK]
 have hs:(w1.putObj p.Y1 busy).heap.size=w1.heap.size:=aE;have hs3:(w3.putObj p.Y1 obj).heap.size=w3.heap.size:=aE;have hlt3:p.Y1<w3.heap.size:=Nat.lt_of_lt_of_le hlt (by have:=M.size;omega);have hp2:β2 l=some p:=by rw[M.old l (k1.nm hl)];exact hp
 have hne:∀ {q x p'},h2.get q=some x->β2 q=some p'->p'.Y1≠p.Y1:=fun {q x p'} hq hq' e=>by
  obtain⟨q0,c0,p0,g1,g2,g3,_⟩:=M.src q x p' hq hq' (by omega);obtain⟨g4,g5⟩:=hn g1;exact g4 (k1.inj q0 l c0 b2 p0 p g5 hl g2 hp (by omega))
 have hput:∀ {q x},(h2.put (some b2) l).get q=some x->(q=l/\x=b2)\/(q≠l/\h2.get q=some x):=fun {q x} hq=>by
  grind[Tr.KK,aa]
 refine⟨M.le,M.old,⟨fun q b hq=>?_,fun q q' b b' p1 p1' hq hq' hq1 hq1' e=>?_,M.ok.top⟩,M.os,M.tape,M.out,M.drawn,by have:=M.size;omega,fun b hb hh=>?_,fun q c p1 hq hq1 hb=>?_,fun K hK hh q c hq=>?_⟩
 ·rcases hput hq with ⟨rfl,rfl⟩ | ⟨g1,g2⟩
  ·obtain⟨p',o',e1,e2,e3⟩:=k1.ob q b hl;rw[hp]at e1;cases e1;rw[ho]at e2;cases e2;exact⟨p,obj,hp2,aB hlt3,e3.le (M.be (k1.take hl hp busy))⟩
  ·obtain⟨p',o',e1,e2,e3⟩:=M.ok.ob q b g2
   grind[aj]
 ·rcases hput hq with ⟨rfl,rfl⟩ | ⟨g1,g2⟩<;>rcases hput hq' with ⟨rfl,rfl⟩ | ⟨g1',g2'⟩
  ·rfl
  ·grind
  ·grind
  ·exact M.ok.inj q q' b b' p1 p1' g2 g2' hq1 hq1' e
 ·by_cases e:b=p.Y1
  ·grind[aB]
  ·rw[aj e,M.fr b (by omega) fun q c p' hq hc=>hh q c p' (hn hq).2 hc,aj e]
 ·rcases hput hq with ⟨rfl,rfl⟩ | ⟨g1,g2⟩
  ·grind
  ·obtain⟨q0,c0,p0,e1,e2,e3,e4⟩:=M.src q c p1 g2 hq1 (by omega)
   grind
 ·rcases hput hq with ⟨rfl,rfl⟩ | ⟨g1,g2⟩
  ·grind
  ·exact M.yh K hK (fun q c hq=>hh q c (hn hq).2) q c g2
end
theorem QAv {P:Program} {ih:Ih} (hih:ug P ih) {lv:Nat} {l:Po} {args:List A} {h:Tr B} {n:Po} {r:R} (hr:(bd (h.get l) fun b=>match b.o with
  |.lp m X ps as body=>bd (QDm ps args m) fun m=>Bx.casesOn (CW P false X as) fun f=>bd (f ih lv m h n) fun r=>Ex.casesOn r.e (bd (r.h.get l) fun b2=>(match b2.o with
   |.lp _ _ _ _ _=>Bx.casesOn (CW P false X body) fun f=>bd (f ih lv r.m (r.h.put none l) r.n) fun r2=>Ex.casesOn r2.e (rz (.b true) (r2.h.put (some b2) l) r2.n) (fun _=>none) none
   |_=>none)) (fun _=>none) none
  |_=>none)=some r):RdS P lv l args h n r:=by
 intro β w vs p hv hk hg hL hp;obtain⟨b,h1,hr1⟩:=QX hr;clear hr;split at hr1
 case h_2=>grind
 rename_i m X ps as body hbo;obtain⟨m1,h2,hr2⟩:=QX hr1;clear hr1;obtain⟨r1,h3,hr3⟩:=QX hr2;clear hr2;cases he:r1.e with
 |ex id=>simp_all
 |rt=>simp_all
 |nm =>
  rw[he]at hr3;obtain⟨b2,h4,hr4⟩:=QX hr3;clear hr3;split at hr4
  case h_2=>grind
  rename_i m' X' ps' as' bd' hb2;obtain⟨r2,h5,hr5⟩:=QX hr4;clear hr4;cases he2:r2.e with
  |ex id=>simp_all
  |rt=>simp_all
  |nm =>
   rw[he2]at hr5;obtain⟨e1,e2,e3⟩:=YE hr5;obtain⟨p',o,g1,g2,g3⟩:=hk.ob l b h1;rw[hp]at g1;cases g1;rw[hbo]at g3;obtain⟨rr,rfl,s1,s2,s3,s4,s5,s6,s7⟩:=g3;have s7:((rr.params.toList.all fun p=>kf _ _)&&(IV _ as&&IV _ body))=true:=s7;rw[ae,ae,aA]at s7;obtain⟨k1,k2,k3⟩:=pZ h2 hv s6 (fun q hq=>af (s7.1 q (by simp_all)));have ets:(rr.params.zip vs.toArray).foldl (fun tmps (x:Tmp×Value)=>tmps.setIfInBounds x.1 x.2) rr.tmps=(ps.zip vs).foldl (fun ts (x:Tmp×Value)=>ts.setIfInBounds x.1 x.2) rr.tmps:=by
    simp_all
   refine⟨_,_,_,_,run_yield g2 (by simp_all),?_⟩;rw[s4,s5];refine roundIn_of_wpIn trivial ?_;have hF:=cH P p.Y1;refine dF hF (fun e=>(by cases e)) hih as s7.2.1 h3 ⟨?_,?_,hk,hg,hL,trivial,ao _⟩ fun β1 a1 w1 s M=>?_
   ·simp_all
   ·simp_all
   rw[he];obtain⟨p1,o1,q1,q2,q3⟩:=s.ok.ob l b2 h4;have hp1:p1=p:=by rw[M.old l (hk.nm h1),hp]at q1;simp_all
   subst hp1;rw[hb2]at q3;obtain⟨rr1,rfl,t1,t2,_⟩:=q3;refine⟨_,run_beginRound q2 t1,?_⟩;have hlt:=(Array.getElem?_eq_some_iff.1 q2).1;have hkt:=s.ok.take h4 q1 (.loop { rr1 with state:=.busy });have hdf:∀ {l':List _},Iu w.heap.size β1 r1.h w1 l'->Iu w.heap.size β1 (r1.h.put none l) (w1.putObj p1.Y1 (.loop { rr1 with state:=.busy })) l':=by
    intro l'
    induction l' with
    |nil=>exact fun _=>trivial
    |cons d l' ih =>
     rintro⟨⟨D,f1,f2,f3,f4,f5⟩,f6⟩;refine⟨⟨D,f1,f2,?_,fun q x p hq=>?_,f5⟩,ih f6⟩
     all_goals grind[aj,Tr.KK]
   refine dF hF (fun e=>(by cases e)) hih body s7.2.2 h5 ⟨s.sl,s.sz,hkt,s.gl,fun q x hq=>?_,hdf s.df,by rw[aE];exact s.b0⟩ fun β2 a2 w3 s2 M2=>?_
   ·rcases Tr.KK _ hq with ⟨_,e⟩ | ⟨_,e⟩
    ·cases e
    ·exact s.lb q x e
   rw[he2];have hfr:w3.heap[p1.Y1]?=some (.loop { rr1 with state:=.busy }):=by
    rw[M2.fr _ (by simp_all) fun q c p' hq _ hp' e=>?_]
    ·exact aB hlt
    ·rcases Tr.KK _ hq with ⟨_,e'⟩ | ⟨e',e''⟩
     ·cases e'
     ·exact e' (s.ok.inj q l c b2 p' p1 e'' h4 hp' q1 e)
   have MM:=M.trans (Mv.round s.ok h4 q1 q2 M2);have hrr:({ ({ rr1 with state:=.busy }:Loop)with state:=if(none:Option Code).isNone then .ready else .done,pending:=none }:Loop)=rr1:=by
    cases rr1<;>simp_all
   refine⟨_,_,run_endRound none hfr,.bool true,β2,rfl,by rw[e1];rfl,?_⟩;simp_all
end Go.Ev
namespace Go.Ev
def QHn(P:Program)(met:TypeId->String->Option FuncId):Prop:=∀T name g,met T name=some g->hasB P g=true/\∀v (vs:List Value) w,(callMethod (.iface T v) name vs.toArray).run P w = .ok (.enter g (v::vs).toArray) w
theorem yr{P:Program}{imp:FuncId->Bool}{ora:Ora}{met:TypeId->String->Option _}(hS:StB P=true)(hO:xp P ora)(hM:QHn P met):∀k,ug P (go P imp ora met k)
 |0,_,_,h=>by cases h
 |k+1,.ca lv f args h n,r,hr=>QFT hS hO (yr hS hO hM k) hr
 |k+1,.rd lv l args h n,r,hr=>QAv (yr hS hO hM k) hr
 |k+1,.me lv T name args h n,r,hr=>by
  obtain⟨g,h1,h2⟩:=QX (show bd _ (fun f=>Bx.casesOn (fnD P imp ora f) fun q=>q (go P imp ora met k) lv args h n)=some r from hr);obtain⟨hb,hm⟩:=hM T name g h1;have hc:=QFT hS hO (yr hS hO hM k) (show(fnD P imp ora g).f _ lv args h n=some r from h2);intro β w v vs hv hk hg hL;rcases hc β w _ hv hk hg hL with ⟨e,_⟩ | ⟨_,h3⟩
  all_goals simp_all
end Go.Ev
namespace Go.Ev
open Go.RowKit
abbrev Orb:=Bx (List A->Tr B->Po->Nat->Option R)
noncomputable section
def idx:List Nat->Nat->Nat->Int
 |[],_,_=>.negSucc 0
 |a::l,c,k=>bif aq a c then .ofNat k else idx l c (k+1)
def LD:List Nat->Nat->Nat
 |[],_=>0
 |a::l,c=>bif aq a c then LD l c+1 else LD l c
def W64:Nat:=18446744073709551616
def QBG:Orb:=⟨fun l h n _=>match l with
 |[.i .u64 (.ofNat x),.i .u64 (.ofNat y)]=>gu (au (aK x) W64) (gu (au (aK y) W64) (rz (.t [.i .u64 (.ofNat (Nat.div (Nat.mul x y) W64)),.i .u64 (.ofNat (aZ (Nat.mul x y) W64))]) h n))
 |_=>none⟩
def QBK:Orb:=⟨fun l h n _=>match l with
 |[.s l,.i .u8 (.ofNat c)]=>gu (au c 255) (rz (.i .i64 (idx l c 0)) h n)
 |_=>none⟩
def QBO:Orb:=⟨fun l h n _=>match l with
 |[.s l,.i .u8 (.ofNat c)]=>gu (au c 255) (rz (.i .i64 (.ofNat (LD l c))) h n)
 |_=>none⟩
def QBS:Orb:=⟨fun l h n _=>match l with
 |[.i .u64 (.ofNat x),.i .u64 (.ofNat y),.i .u64 (.ofNat c)]=>gu (au c 1) (rz (.t [.i .u64 (.ofNat (aZ (x+y+c) W64)),.i .u64 (.ofNat (Nat.div (x+y+c) W64))]) h n)
 |_=>none⟩
def QBD:Orb:=⟨fun l h n _=>match l with
 |[.i .u64 (.ofNat x),.i .u64 (.ofNat y),.i .u64 (.ofNat c)]=>gu (au c 1) (rz (.t [.i .u64 (.ofNat (aZ (x+W64-y-c) W64)),.i .u64 (.ofNat (bif au (y+c) x then 0 else 1))]) h n)
 |_=>none⟩
def QBM:Orb:=⟨fun l h n _=>match l with | [x]=>rz x h n | _=>none⟩
def QBI(u:TypeId):Orb:=⟨fun l h n lv=>match l with
 |[.i .i64 (.ofNat k)]=>gu (au k lim) (nw (.c [] u true) (.o · 0 k 1) lv h n)
 |_=>none⟩
end
section
variable{P:Program}{f:FuncId}{fn:Func}{lv:Nat}{args:List A}{h:Tr B}{n:Po}{r:R}
theorem pc{e:Array Value->Sem Value}(hf:P.funcs[f]?=some fn)(hname:(fn.name == "runtime.NumGoroutine")=false)(hb:fn.body.isNone=true)(hn:ai fn=none)(he:ar fn=some e)
  (H:∀β w vs,Vs β args=some vs->Ok β h n w->∃v β' w',(e vs.toArray).run P w = .ok v w'/\V β' r.a=some v/\Mv lv β h n w β' r.h r.n w'):N2 P lv f args h n r:=fun β w vs hv hk _ _=>by
 obtain⟨v,β',w',h1,h2,h3⟩:=H β w vs hv hk;refine .inl ⟨?_,v,β',w',by rw[run_callFunc_extern hf hname hb hn he,h1];rfl,h2,h3⟩;unfold hasB;simp_all
theorem AD{e:Array Value->Sem Value}(hf:P.funcs[f]?=some fn)(hname:(fn.name == "runtime.NumGoroutine")=false)(hb:fn.body.isNone=true)(hn:ai fn=none)(he:ar fn=some e)
  {a:A} (hr:rz a h n=some r) (H:∀β w vs,Vs β args=some vs->∃v,(e vs.toArray).run P w = .ok v w/\V β a=some v):N2 P lv f args h n r :=
 pc hf hname hb hn he fun β w vs hv hk=>by
  obtain⟨e1,e2,e3⟩:=YE hr;obtain⟨v,h1,h2⟩:=H β w vs hv
  grind[Mv.refl]
theorem Vm{a c:Nat}(ha:a<=255)(hc:c<=255):(ak a==ak c)=aq a c:=by
 by_cases e:a=c
 ·simp_all
 ·have h1:aq a c=false:=by
   cases h:aq a c<;>simp_all
  rw[h1,beq_eq_false_iff_ne];intro h2
  grind[UInt8.toNat_ofNat']
theorem idx_eq{c:Nat}(hc:c<=255):∀ {l:List Nat} (k:Nat),RH l=true->idx l c k=if ax (l.map ak) (ak c)==-1 then -1 else ax (l.map ak) (ak c)+k
 |[],k,_=>rfl
 |a::l,k,hl=>by
  unfold RH at hl;rw[aX,ae]at hl;have ha:=af hl.1;have ih:=idx_eq hc (k+1) hl.2;rw[aW];unfold idx ax;rw[Vm ha hc];cases aq a c with
  |true=>simp
  |false =>
   have hge:=Lib.indexByte_ge (l.map ak) (ak c)
   grind
theorem QCN{c:Nat}(hc:c<=255):∀ {l:List Nat},RH l=true->LD l c=aY (l.map ak) (ak c)
 |[],_=>rfl
 |a::l,hl=>by
  unfold RH at hl;rw[aX,ae]at hl;have ha:=af hl.1;have ih:=QCN hc hl.2;unfold aY at ih ⊢;rw[aW,List.count_cons,Vm ha hc];unfold LD
  grind
theorem Vs1{β:Be}{a:A}{vs:List Value}(h:Vs β [a]=some vs):∃v,V β a=some v/\vs=[v]:=by
 obtain⟨v,r,h1,h2,rfl⟩:=XI h;cases h2<;>simp_all
theorem Vs2{β:Be}{a b:A}{vs:List Value}(h:Vs β [a,b]=some vs):∃v u,V β a=some v/\V β b=some u/\vs=[v,u]:=by
 obtain⟨v,r,h1,h2,rfl⟩:=XI h;obtain⟨u,g1,rfl⟩:=Vs1 h2;simp_all
theorem QFa{β:Be}{l:List Nat}{v:Value}(h:V β (.s l)=some v):RH l=true/\v = .string (GK l):=by
 unfold V at h;simp_all
theorem QBJ(hf:P.funcs[f]?=some fn)(hname:(fn.name == "runtime.NumGoroutine")=false)(hb:fn.body.isNone=true)(hn:ai fn=none)(he:ar fn=some aG)(hr:QBK.f args h n lv=some r):N2 P lv f args h n r:=by
 unfold QBK at hr;simp only at hr;split at hr
 case h_2=>cases hr
 obtain⟨h1,hr⟩:=Q5 hr;refine AD hf hname hb hn he hr fun β w vs hv=>?_;obtain⟨v,u,g1,g2,rfl⟩:=Vs2 hv;obtain⟨g3,rfl⟩:=QFa g1;cases aa (show some _=some u from g2);refine⟨_,Lib.run_indexByteString _ _ w,?_⟩;show some _=some _;rw[idx_eq (af h1) 0 g3];congr 2;show(if ax _ _==-1 then _ else ax _ _+0)=ax (List.map _ _) _;simp_all
theorem QBN(hf:P.funcs[f]?=some fn)(hname:(fn.name == "runtime.NumGoroutine")=false)(hb:fn.body.isNone=true)(hn:ai fn=none)(he:ar fn=some aS)(hr:QBO.f args h n lv=some r):N2 P lv f args h n r:=by
 unfold QBO at hr;simp only at hr;split at hr
 case h_2=>cases hr
 obtain⟨h1,hr⟩:=Q5 hr;refine AD hf hname hb hn he hr fun β w vs hv=>?_;obtain⟨v,u,g1,g2,rfl⟩:=Vs2 hv;obtain⟨g3,rfl⟩:=QFa g1;cases aa (show some _=some u from g2);refine⟨_,Lib.run_countString _ _ w,?_⟩;rw[QCN (af h1) g3];rfl
theorem QBR(hf:P.funcs[f]?=some fn)(hname:(fn.name == "runtime.NumGoroutine")=false)(hb:fn.body.isNone=true)(hn:ai fn=none)(he:ar fn=some add64Entry)(hr:QBS.f args h n lv=some r):N2 P lv f args h n r:=by
 unfold QBS at hr;simp only at hr;split at hr
 case h_2=>cases hr
 rename_i x y c;obtain⟨h1,hr⟩:=Q5 hr;have h1:=af h1;refine AD hf hname hb hn he hr fun β w vs hv=>?_;cases aa (show some [aD .u64 x,.int .u64 y,.int .u64 c]=some vs from hv);refine⟨_,run_add64 (x:Int) y c (by omega) (by omega) (by omega) (by omega) w,?_⟩;rfl
def BF:Array Value->Sem Value:=fun args=>do
 let (x,y,b) <-aQ "Sub64" args
 pure (aR ((x+aC-y-b)%aC) (if x<y+b then 1 else 0))
theorem M9(x y b:Nat)(hb:b<=1)(w:World):
  (BF #[.int .u64 x,.int .u64 y,.int .u64 b]).run P w =
   .ok (.tuple #[.int .u64 (((x+18446744073709551616-y-b)%18446744073709551616:Nat):Int),.int .u64 ((if x<y+b then 1 else 0:Nat):Int)]) w:=by
 have:b=0\/b=1:=by omega
 rcases this with rfl | rfl<;>rfl
theorem QBC(hf:P.funcs[f]?=some fn)(hname:(fn.name == "runtime.NumGoroutine")=false)(hb:fn.body.isNone=true)(hn:ai fn=none)(he:ar fn=some BF)(hr:QBD.f args h n lv=some r):N2 P lv f args h n r:=by
 unfold QBD at hr;simp only at hr;split at hr
 case h_2=>cases hr
 rename_i x y c;obtain⟨h1,hr⟩:=Q5 hr;have h1:=af h1;refine AD hf hname hb hn he hr fun β w vs hv=>?_;cases aa (show some [aD .u64 x,.int .u64 y,.int .u64 c]=some vs from hv);refine⟨_,M9 x y c h1 w,?_⟩;have e:(bif au (y+c) x then 0 else 1)=if x<y+c then 1 else 0:=by
  cases hb:au _ x with
  |true=>simp_all
  |false=>rw[if_pos (by
    grind[ba,aH])];rfl
 rw[e];rfl
theorem QBL(hf:P.funcs[f]?=some fn)(hname:(fn.name == "runtime.NumGoroutine")=false)(hb:fn.body.isNone=true)(hn:ai fn=none)(he:ar fn=some aT)(hr:QBM.f args h n lv=some r):N2 P lv f args h n r:=by
 unfold QBM at hr;simp only at hr;split at hr
 case h_2=>cases hr
 refine AD hf hname hb hn he hr fun β w vs hv=>?_;obtain⟨v,g1,rfl⟩:=Vs1 hv
 grind[Lib.run_noEscape]
theorem QBH{ps:Array _}{t u:TypeId}(hf:P.funcs[f]?=some fn)(hname:(fn.name == "runtime.NumGoroutine")=false)(hb:fn.body.isNone=true)(hn:ai fn=none)(he:ar fn=some (aF ps #[t]))(ht:P.underlying t=some (.slice u))(hr:(QBI u).f args h n lv=some r):N2 P lv f args h n r:=by
 unfold QBI at hr;simp only at hr;split at hr
 case h_2=>cases hr
 rename_i k;obtain⟨h1,hr⟩:=Q5 hr;have h1:=af h1;unfold lim at h1;refine pc hf hname hb hn he fun β w vs hv hk=>?_;cases aa (show some [aD .i64 k]=some vs from hv);obtain⟨cs,g1,g2,_⟩:=Lib.run_makeNoZero w ps t u ht k (by omega);obtain⟨e1,e2,e3⟩:=YE (show rz _ _ n.s=some r from hr);refine⟨_,Cu β n ⟨w.heap.size,0,cs.size⟩,_,g1,?_,?_⟩
 ·rw[e1];have hc:(cs.size-(0+0))/1=cs.size:=by omega
  have:=Ci (β:=Cu β n ⟨w.heap.size,0,cs.size⟩) (off:=0) (len:=k) (sz:=1) (Ke _ _ _) (by simp_all);rw[this];rw[hc];rfl
 ·rw[e2,e3];exact Mv.new hk lv lv (ao _) rfl ⟨rfl,rfl,rfl,trivial⟩ ⟨cs,[],rfl,rfl,rfl,fun i v hv=>(by cases hv),by simp,fun h=>(by cases h),rfl⟩
end
end Go.Ev
namespace Go.Ev
noncomputable section
def pL:List (A×A×Nat)->List (A×A×Nat)->Bool
 |[],[]=>true
 |(k,v,b)::l,(k',v',b')::r=>same k k'&&(same v v'&&(aq b b'&&pL l r))
 |_,_=>false
def QAq:O->O->Bool
 |.c l T b,.c l' T' b'=>Rk l l'&&(aq T T'&&(b==b'))
 |.r l T,.r l' T'=>Rk l l'&&aq T T'
 |.m es c,.m es' c'=>pL es es'&&aq c c'
 |_,_=>false
def He:Option B->Option B->Bool
 |none,none=>true
 |some a,some b=>aq a.lv b.lv&&QAq a.o b.o
 |_,_=>false
def QCD(t:Tr B):Bool:=Tr.rec true (fun v _ _ a b=>v.isNone&&(a&&b)) t
def qC(t:Tr B):Tr B->Bool:=Tr.rec (fun u=>QCD u) (fun v _ _ a b u=>He v u.v&&(a u.l&&b u.r)) t
def yo(o:Option R)(r:R):Bool:=ay o false fun x=>same x.a r.a&&(qC x.h r.h&&Po.eq x.n r.n)
structure Mm where
 f:FuncId
 lv:Nat
 args:List A
 h:Tr B
 n:Po
 r:R
def hit(m:Mm)(args:List A)(h:Tr B)(n:Po)(lv:Nat):Bool:=Po.eq n m.n&&(Rk args m.args&&(aq lv m.lv&&qC h m.h))
def Bu(m:Mm)(o:Ora):Ora:=fun f=>cn (aq f m.f) (some ⟨fun args h n lv=>cn (hit m args h n lv) (some m.r) (match o f with | some b=>b.f args h n lv | none=>none)⟩) (o f)
def Q(t:Nat):Po:=Nat.rec (fun _=>.h) (fun _ ih t=>cn (au t 1) .h (cn (aq (Nat.land t 1) 0) (.o (ih (aV t 1))) (.i (ih (aV t 1))))) 26 t
def aI(n:Nat):A:=.i .i64 (.ofNat n)
def aJ(n:Nat):A:=.i .i64 (.negSucc n)
def aU(n:Nat):A:=.i .u64 (.ofNat n)
def aN:A:=.k (.slice none 0 0)
def aL(n off len cap:Nat):A:=.l (Q n) off len cap
def aO(n off len sz:Nat):A:=.o (Q n) off len sz
def bC(n:Nat)(l:List A)(T:TypeId)(op:Bool)(lv:Nat)(h:Tr B):Tr B:=h.put (some ⟨.c l T op,lv⟩) (Q n)
def bR(n:Nat)(l:List A)(T:TypeId)(lv:Nat)(h:Tr B):Tr B:=h.put (some ⟨.r l T,lv⟩) (Q n)
def QA6:List A:=[1,10,100,1000,10000,100000,1000000,10000000,100000000,1000000000,10000000000,100000000000,1000000000000,10000000000000,100000000000000,1000000000000000,10000000000000000,100000000000000000,1000000000000000000,10000000000000000000].map fun z=>.i .u64 (.ofNat z)
end
def Teq(t u:Tr B):Prop:=∀q,t.get q=u.get q
theorem zw:∀ {l r:List _},pL l r=true->l=r
 |[],[],_=>rfl
 |(k,v,b)::l,(k',v',b')::r,h=>by
  have h:(same k k'&&(same v v'&&(aq b b'&&pL l r)))=true:=h;rw[ae,ae,ae]at h;rw[MW _ _ h.1,MW _ _ h.2.1,ah h.2.2.1,zw h.2.2.2]
theorem QAp{a b:O}(h:QAq a b=true):a=b:=by
 unfold QAq at h;split at h
 ·grind[Eh,ah]
 ·grind[Eh,ah]
 ·grind[zw,ah]
 grind
theorem QAr{a b:Option B}(h:He a b=true):a=b:=by
 unfold He at h;split at h
 ·rfl
 ·rename_i x y;rw[ae]at h;have h2:=QAp h.2;cases x<;>simp_all
 grind
theorem CJ:∀ {u:Tr B},QCD u=true->∀q,u.get q=none
 |.lf,_,q=>Tr.jz q
 |.nd v l r,h,q=>by
  have h:(v.isNone&&(QCD l&&QCD r))=true:=h;rw[ae,ae]at h;cases q with
  |h=>exact Option.isNone_iff_eq_none.1 h.1
  |o q=>exact CJ h.2.1 q
  |i q=>exact CJ h.2.2 q
theorem S8:∀ {t u:Tr B},qC t u=true->Teq t u
 |.lf,u,h,q=>by rw[Tr.jz,CJ (show QCD u=true from h) q]
 |.nd v l r,u,h,q=>by
  have h:(He v u.v&&(qC l u.l&&qC r u.r))=true:=h;rw[ae,ae]at h;cases q with
  |h=>exact QAr h.1
  |o q=>exact S8 h.2.1 q
  |i q=>exact S8 h.2.2 q
section
variable{P:Program}{lv:Nat}{β β':Be}{h h' h1 h1':Tr B}{n n':Po}{w w':World}
theorem Ok.congr(k:Ok β h n w)(e:Teq h h'):Ok β h' n w :=
 ⟨fun q b hq=>k.ob q b (by rw[e];exact hq),fun q q' b b' p p' hq hq'=>k.inj q q' b b' p p' (by rw[e];exact hq) (by rw[e];omega),k.top⟩
theorem Mv.congr(M:Mv lv β h n w β' h1 n' w')(e:Teq h h')(e1:Teq h1 h1'):Mv lv β h' n w β' h1' n' w' :=
 ⟨M.le,M.old,M.ok.congr e1,M.os,M.tape,M.out,M.drawn,M.size,fun b hb hh=>M.fr b hb fun q c p hq=>hh q c p (by rw[<-e];exact hq),
  fun q c p hq hp hb=>by obtain⟨q0,c0,p0,g1,g2⟩:=M.src q c p (by rw[e1];exact hq) hp hb;exact⟨q0,c0,p0,by rw[<-e];exact g1,g2⟩,
  fun K hK hh q c hq=>M.yh K hK (fun q c hq=>hh q c (by rw[<-e];exact hq)) q c (by rw[e1];exact hq)⟩
theorem N2.congr{f:FuncId}{args:List A}{r r':R}(c:N2 P lv f args h n r)(e:Teq h h')(ea:r.a=r'.a)(en:r.n=r'.n)(eh:Teq r.h r'.h):N2 P lv f args h' n r':=fun β w vs hv hk hg hL=>by
 have e':=fun q=>(e q).symm;rcases c β w vs hv (hk.congr e') hg (fun q x hq=>hL q x (by rw[e'] ;exact hq))with ⟨g1,v,β',w',g2,g3,g4⟩ | ⟨g1,g2⟩
 ·exact .inl ⟨g1,v,β',w',g2,by simp_all,by rw[<-en];exact g4.congr e eh⟩
 ·refine .inr ⟨g1,g2.mono ?_⟩;rintro x w' ⟨v,β',k1,k2,k3⟩;exact⟨v,β',k1,by simp_all,by rw[<-en];exact k3.congr e eh⟩
theorem QG5{o:Option R}{r:R}(h:yo o r=true):∃x,o=some x/\x.a=r.a/\Teq x.h r.h/\x.n=r.n:=by
 cases o with
 |none=>cases h
 |some x =>
  have h:(same x.a r.a&&(qC x.h r.h&&Po.eq x.n r.n))=true:=h;rw[ae,ae]at h;exact⟨x,rfl,MW _ _ h.1,S8 h.2.1,Po.eq_eq h.2.2⟩
theorem V8{imp:FuncId->Bool}{ora:Ora}{met:TypeId->String->Option _}(hS:StB P=true)(hO:xp P ora)(hM:QHn P met){k:Nat}{m:Mm}(hm:yo (go P imp ora met k (.ca m.lv m.f m.args m.h m.n)) m.r=true):N2 P m.lv m.f m.args m.h m.n m.r:=by
 obtain⟨x,h1,h2,h3,h4⟩:=QG5 hm;exact N2.congr (yr hS hO hM k _ _ h1) (fun _=>rfl) h2 h4 h3
theorem V7{ora:Ora}(hO:xp P ora){m:Mm}(hm:N2 P m.lv m.f m.args m.h m.n m.r):xp P (Bu m ora):=by
 intro f o ho lv args h n r hr;unfold Bu at ho;rw[X6]at ho;split at ho
 ·rename_i hf;have hf:=ah hf;subst hf;cases aa ho;replace hr:cn _ _ _=some r:=hr;rw[X6]at hr;split at hr
  ·rename_i hh;cases aa hr;unfold hit at hh;rw[ae,ae,ae]at hh;obtain⟨e1,e2,e3,e4⟩:=hh;have e1:=Po.eq_eq e1;have e2:=Eh _ _ e2;have e3:=ah e3;subst e1;subst e2;subst e3;exact N2.congr hm (fun q=>(S8 e4 q).symm) rfl rfl (fun _=>rfl)
  ·split at hr
   ·rename_i b hb;exact hO _ _ hb lv args h n r hr
   trivial
 ·exact hO f o ho lv args h n r hr
end
end Go.Ev
namespace Go.Ev
open Go.RowKit
noncomputable section
def hG(g:Nat):Tr B:=(Tr.lf:Tr B).put (some ⟨.r QA6 0,0⟩) (po g)
def n0:Po:=.o (.o (.o (.o (.o (.o (.o .h))))))
def isT(r:Option R):Bool:=ay r false fun x=>same x.a (.b true)
def QDi:List Int:=[1,10,100,1000,10000,100000,1000000,10000000,100000000,1000000000,10000000000,100000000000,1000000000000,10000000000000,100000000000000,1000000000000000,10000000000000000,100000000000000000,1000000000000000000,10000000000000000000]
end
theorem QHd(β:Be):Vs β QA6=some (QDi.map fun z=>aD .u64 z):=rfl
theorem QBF{P:Program}{f:FuncId}{lv:Nat}{args:List A}{h:Tr B}{n:Po}{r:R}(he:Enters P f)(hc:∀(x y:Nat),x<18446744073709551616->y<18446744073709551616->∀w:World,Calls P f #[.int .u64 x,.int .u64 y] w fun e w'=>e = .returned (.tuple #[.int .u64 ((x*y/18446744073709551616:Nat):Int),.int .u64 ((x*y%18446744073709551616:Nat):Int)])/\w'=w)
  (hr:QBG.f args h n lv=some r):N2 P lv f args h n r:=by
 unfold QBG at hr;simp only at hr;split at hr
 case h_2=>cases hr
 rename_i x y;obtain⟨h1,hr⟩:=Q5 hr;obtain⟨h2,hr⟩:=Q5 hr;obtain⟨e1,e2,e3⟩:=YE hr;intro β w vs hv hk _ _;cases aa (show some [aD .u64 x,.int .u64 y]=some vs from hv);refine .inr ⟨he _ _,(hc x y (af h1) (af h2) w).mono ?_⟩;rintro e w' ⟨rfl,rfl⟩;exact⟨_,β,rfl,by rw[e1];rfl,by grind[Mv.refl]⟩
theorem zg{P:Program}{f:FuncId}{g:Nat}{r:R}(hb:hasB P f=true)(hg:g<=60)(hc:N2 P 1 f [] (hG g) n0 r)(ha:r.a = .b true){w:World}{T:TypeId}{fr:Nat×Nat}(hw:w.heap[g]?=some (.cells (QDi.map fun z=>aD .u64 z).toArray T fr)):
  Calls P f #[] w fun e w'=>e = .returned (.bool true)/\Below w.heap.size w w':=by
 obtain⟨β,hβ⟩:∃β:Be,β=fun q=>if q.n<128 then some ⟨q.u,0,20⟩else none:=⟨_,rfl⟩
 have hpo:∀ {i:Nat},i<=60->β _=some ⟨i,0,20⟩:=fun {i} hi=>by
  rw[hβ];show(if(po i).n<128 then _ else _)=_;rw[if_pos (QF7 hi)];simp[po,QAb,ao]
 have hget:∀ {q b},(hG g).get q=some b->q=po g/\b=⟨.r QA6 0,0⟩:=fun {q b} hq=>by
  rcases Tr.KK _ hq with ⟨e1,e2⟩ | ⟨_,e2⟩
  all_goals grind[aa,Tr.jz]
 have hk:Ok β (hG g) n0 w:=by
  refine⟨fun q b hq=>?_,fun q q' b b' p p' hq hq' _ _ _=>?_,fun q hq=>?_⟩
  ·obtain⟨rfl,rfl⟩:=hget hq;refine⟨_,_,hpo hg,hw,_,T,fr,_,rfl,rfl,QHd β,fun i v hv=>?_,ao _⟩;simp_all
  ·grind
  ·have hq:128<=q.n:=hq;simp_all
 rcases hc β w [] rfl hk ⟨ao 128,fun i hi=>⟨_,hpo hi⟩⟩ (fun q x hq=>by grind)with ⟨h,_⟩ | ⟨_,h⟩
 ·simp_all
 ·refine h.mono ?_;rintro e w' ⟨v,β',rfl,h1,M⟩;rw[ha]at h1;cases aa (show some _=some v from h1);exact⟨rfl,M.os,M.tape,M.out,M.size,fun k hk=>M.fr k hk fun q c p hq hc _=>by grind⟩
theorem QG4{o:Option R}(h:isT o=true):∃r,o=some r/\r.a = .b true:=by
 cases o with
 |none=>cases h
 |some x=>exact⟨x,rfl,MW _ _ h⟩
end Go.Ev
namespace Go.Ev
open Go.RowKit
noncomputable section
end
end Go.Ev
namespace Go.Ev
open Go.RowKit
end Go.Ev
