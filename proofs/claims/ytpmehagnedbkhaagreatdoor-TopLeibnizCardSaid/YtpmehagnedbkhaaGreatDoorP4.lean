/- Steps of the proof of the theorem in the last file. -/
import Derived.Test.YtpmehagnedbkhaaGreatDoorP3
import Derived.KernelRfl
import Derived.Scope
import Derived.Control
set_option linter.all false
set_option maxHeartbeats 4000000
open Go.Proofs.Tryz
namespace Go.Proofs.YtpmehagnedbkhaaGreatDoor
variable{l:List Int}{F:Gs}{N Q b i k n:Nat}{ms:List Ht}{seen:List Nat}{os:List Xa}{w:World}{s:List UInt8}{x:Rat}{c:Sr×List VO}{q:Option Addr}{c1 c2:List Value}{G0:Gs->Prop}{nl:List (List UInt8)}{rl:List Pt}{sl:List (List UInt8×List UInt8)}{xs:List (Fr×Rat)}
open Go.RowKit Ig
def TN{l vs:List Value}(h:l.length=vs.length):Ym l 0 vs vs:=by
 have h1:=Ym.mk' 0 l vs O
 rwa [List.take_zero,List.nil_append,Nat.zero_add,List.drop_of_length_le O,List.append_nil]at h1
def Ke(l:List Int):((YO l).1.map Q7).length=25:=by simp[YO]
theorem TQ(l:List Int):Bj ((YO l).1.map Q7):=by
 have key:∀(x:List Int),Bj (x.map Q7):=by
  intro x
  induction x with
  |nil=>trivial
  |cons a x ih=>exact⟨rfl,ih⟩
 exact key _
def qz(h:F b=some (((YO l).1.map Q7).toArray,90))(hl:l.length=n)(hn:n<=25):JP F ⟨some ⟨b,0,none⟩,n,25⟩ l:=by
 refine⟨⟨by simp[hl],λ_=>⟨b,0,_,_,rfl,h,λj u hu=>?_⟩⟩,hl,hn⟩;rw[Nat.zero_add];have hj:j<l.length:=by
  rcases Nat.lt_or_ge j l.length with g | g
  ·exact g
  rw[List.getElem?_eq_none (by simpa using g)]at hu;cases hu
 have h25:j<25:=O;rw[List.getElem?_map,List.getElem?_eq_getElem hj]at hu;simp only[Option.map_some,Option.some.injEq]at hu;rw[<-hu];simp[YO,h25,Qd,hj]
section
variable[Dr][df:Df]{P:Program}{Q:Exit->Act->World->Prop}{N:Nat}{m:Sl}{ops:Array Oper}{l:List Oper}{E E':Env}
theorem vc(h:∀w,St E w->St E' w)(k:JS P ops Q l N m E'):JS P ops Q l N m E:=λa w ha hw=>k a w ha (h w hw)
theorem FR{w0:World}{F0:Gs}{bs bs':List (Nat×Obj)}{G:Gs->Prop}{E0:Env}(hp:bs.Perm bs')(k:JD P ops Q E0 l N m ⟨w0,F0,bs',G⟩):JD P ops Q E0 l N m ⟨w0,F0,bs,G⟩:=λhE a w ha hw=>k (λw h=>hE w (h.perm hp.symm)) a w ha (hw.perm hp)
end
def N5{m:Sl}{ps:Array Tmp}{assign body:Code}{r:Loop}(h:zD N m ps assign body r):{ ({ r with state:=.busy }:Loop)with state:=.ready,pending:=none }=r:=by
 obtain⟨h1,h2,_,_,_,_⟩:=h;cases r;simp only at h1 h2;subst h1;subst h2;rfl
theorem Ew{m:Sl}{p1 p2:Tmp}{assign body:Code}{r:Loop}(h:zD N m #[p1,p2] assign body r)(v1 v2:Value)(h1:p1<N)(h2:p2<N):JY (df:=WM) N ((p2,v2)::(p1,v1)::m) (TG r #[v1,v2]):=by
 have e:TG r #[v1,v2]=((({ tmps:=r.tmps,defers:=[] }:Act).put (some p1) v1).put (some p2) v2):=by
  unfold TG;rw[h.params];simp[Act.put]
 rw[e];exact(h.QA4.put (d:=some p1) (by simpa[J6]using h1) v1).put (d:=some p2) (by simpa[J6]using h2) v2
def y9(l:List Tm):List Tm:=l.filter λt=>decide (t.1≠0)
structure MuJ(ms:List Ht) where
 seen:List Nat
 os:List Xa
 v:Value
 n:Nat
 ob:List (Nat×Obj)
 hr:Q6 101 5 v n (os.flatMap Y2) ob
 nd:seen.Nodup
 lt:∀j∈seen,j<ms.length
 hn:os.length=n
 ho:JQ os=y9 (KR (seen.map (el ms)))
def PE(p q:List Tm):(JC p q).length=p.length*q.length:=by
 unfold JC
 induction p with
 |nil=>simp
 |cons a p ih=>rw[List.flatMap_cons,List.length_append,ih,List.length_cons,Nat.add_mul];simp[Jf];omega
def FY{p q:List Tm}{t:Tm}(h:t∈JC p q):∃s∈p,∃u∈q,t.2=Jq s.2 u.2:=by
 unfold JC Jf at h;obtain⟨s,hs,h1⟩:=List.mem_flatMap.1 h;obtain⟨u,hu,rfl⟩:=List.mem_map.1 h1;exact⟨s,hs,u,hu,rfl⟩
theorem yv{p q:List Tm}(lp:p.length<=64)(lq:q.length<=64)(hp:∀t∈p,Jn t.1<=2400)(hq:∀t∈q,Jn t.1<=2400):Z3 (JC p q)<=30000000:=by
 have h1:=OO (l:=JC p q) (k:=4800) λt ht=>by
  unfold JC Jf at ht;obtain⟨s,hs,h1⟩:=List.mem_flatMap.1 ht;obtain⟨u,hu,rfl⟩:=List.mem_map.1 h1;have:=KO s.1 u.1;have:=hp s hs;have:=hq u hu;show Jn (s.1*u.1)<=_;omega
 rw[PE]at h1;have h2:p.length*q.length<=64*64:=Nat.mul_le_mul lp lq;have h3:p.length*q.length*4801<=64*64*4801:=Nat.mul_le_mul_right _ h2;omega
theorem Y1.small{p:Pt}{v:Int}(h:Y1 p v):∀t∈JW p,∀k∈t.2,0<=k/\k<=12:=λt ht=>by
 unfold JW at ht;obtain⟨x,hx,rfl⟩:=List.mem_map.1 ht;exact(Zn (h.term x hx)).2.1
theorem yp{a b:List Int}(ha:∀k∈a,0<=k/\k<=12)(hb:∀k∈b,0<=k/\k<=12)(hl:a.length<=1000):PW (Jq a b):=by
 refine⟨λx hx=>?_,by unfold Jq;simp;omega⟩;unfold Jq at hx;obtain⟨i,hi,rfl⟩:=List.getElem_of_mem hx;simp only[List.length_zipWith]at hi;have h1:=ha (a[i]' O) (List.getElem_mem _);have h2:=hb (b[i]' O) (List.getElem_mem _);simp only[List.getElem_zipWith];omega
def Lm(ms:List Ht):(SX ms).length=ms.length:=by simp[SX]
def kA{j:Nat}{t:Ht}{o:Xa}(e:el ms j=t)(h:t.t.1≠0)(ho:JQ os=y9 (KR (seen.map (el ms))))(hot:o.t=t.t):JQ (os++[o])=y9 (KR ((seen++[j]).map (el ms))):=by
 have e1:JQ (os++[o])=JQ os++[o.t]:=by unfold JQ;rw[List.map_append];rfl
 have e2:KR ((seen++[j]).map (el ms))=KR (seen.map (el ms))++[t.t]:=by unfold KR;rw[List.map_append,List.map_append,List.map_cons,List.map_nil,e];rfl
 rw[e1,e2,ho,hot];unfold y9;rw[List.filter_append];simp[h]
def uC{j:Nat}{t:Ht}(e:el ms j=t)(h:t.t.1=0)(ho:JQ os=y9 (KR (seen.map (el ms)))):JQ os=y9 (KR ((seen++[j]).map (el ms))):=by
 have e2:KR ((seen++[j]).map (el ms))=KR (seen.map (el ms))++[t.t]:=by unfold KR;rw[List.map_append,List.map_append,List.map_cons,List.map_nil,e];rfl
 rw[e2,ho];unfold y9;rw[List.filter_append];simp[h]
def jr{cs:List Xa}{l:List Tm}(hI:Mk n ms l)(hn:seen.Nodup)(hlt:∀j∈seen,j<ms.length)(hall:∀j,j<ms.length->j∈seen)(ho:JQ os=y9 (KR (seen.map (el ms))))(hp:cs.Perm os)(hs:cs.Pairwise λx y=>before y.t.2 x.t.2=false):JQ cs=JX l:=by
 have h1:(KR (seen.map (el ms))).Perm (KR ms):=by
  have:=(Uh hn hlt hall).map (el ms);rw[Da]at this;exact this.map _
 have h2:(JQ cs).Perm ((KR ms).filter λt=>decide (t.1≠0)):=by
  have e:(JQ cs).Perm (JQ os):=hp.map _;rw[ho]at e;exact e.trans (h1.filter _)
 refine hI.Fc.norm h2 ?_;have hnd:((JQ cs).map (·.2)).Nodup:=by
  have h3:((JQ cs).map (·.2)).Perm (((KR ms).filter λt=>decide (t.1≠0)).map (·.2)):=h2.map _;rw[h3.nodup_iff];exact(List.filter_sublist.map _).nodup hI.Fc.nd
 unfold JQ at hnd ⊢;rw[List.pairwise_map];rw[List.map_map]at hnd;have hnd2:=List.pairwise_map.1 hnd;refine(hs.and hnd2).imp ?_;rintro x y ⟨h1,h2⟩;rcases Vx x.t.2 y.t.2 with e | e | e
 ·exact absurd e h2
 ·exact e
 rw[h1]at e;cases e
theorem MuJ.bound(s:MuJ ms):s.n<=ms.length:=by
 have h1:=congrArg List.length s.ho;have h2:=List.length_filter_le (λt:Tm=>decide (t.1≠0)) (KR (s.seen.map (el ms)));have h3:=Hm _ _ s.nd s.lt;unfold y9 at h1;simp only[JQ,KR,List.length_map]at h1 h2;have:=s.hn;omega
def MuJ.mem{l:List Tm}(hI:Mk n ms l)(s:MuJ ms):∀t∈s.os,PW t.t.2:=λt ht=>by
 have h1:t.t∈JQ s.os:=List.mem_map_of_mem ht;rw[s.ho]at h1;have h2:=(List.mem_filter.1 h1).1;obtain⟨e,he,h3⟩:=List.mem_map.1 h2;obtain⟨j,hj,h4⟩:=List.mem_map.1 he;rw[<-h3,<-h4];exact hI.pw _ (JK (s.lt j hj))
theorem Ot{a b:K8}{v:Int}(hF:Fits F w)(hGl:JG F)(hA:KL F [a,b])(ht:∀e∈[a,b],BP e):
  QU prog 9 [a.1.v,b.1.v,.int .i64 v] w F (λ(c:K8)=>.tuple #[c.1.v,.int .i64 (gW [a,b] v (JX (JC (JW (J0 a.2)) (JW (J0 b.2)))))]) (λc F=>Ka F c.1 c.2 (gV [a,b] v (JX (JC (JW (J0 a.2)) (JW (J0 b.2)))))):=by
 have ha:a∈[a,b]:=wz;have hb:b∈[a,b]:=wz;dsimp only[Sr.v];refine QU.uP (G:=λF=>JG F/\KL F [a,b]) func9 I wy rfl rfl hF (λF' hF'=>⟨hGl.le hF',hA.le hF'⟩)<|wA 12 I<|Qs I (JU W1) Gh vm I I λb20=>QJ I (λ_ _ f k=>P5 f k.1.1 (Qy.of (n:=2) (sz:=1) (cs:=[a,b].map λe=>e.1.v) k.2 I) (k.1.2) (rfl) wu (ht)) λ_=>QHB 9 I ?_
 refine QP I (λhc=>?_) λhc=>?_
 ·have hc0:=bne_iff_ne.1 hc;refine wA 8 I<|zK ?_
  exact J9 ((⟨none,0,0⟩,[])) I (wO I I) (by unfold gW;rw[if_neg hc0]) λF h9=>by unfold gV;rw[if_neg hc0];exact Ka.nil F
 have hc0:=bne_eq_false_iff_eq.1 hc;obtain⟨hv,hok⟩:=L6 hc0;have oa:=hok a ha;have ob:=hok b hb;have sa:=oa.Z3;have sb:=ob.Z3;have hpa:∀t∈JW (J0 a.2),PW t.2:=oa.pw hv.2;have hpb:∀t∈JW (J0 b.2),PW t.2:=ob.pw hv.2;have hwa:∀t∈JW (J0 a.2),t.2.length=(v+1).toNat:=λt ht=>wk<|oa.wide t ht
 have hwb:∀t∈JW (J0 b.2),t.2.length=(v+1).toNat:=λt ht=>wk<|ob.wide t ht
 have la:(JW (J0 a.2)).length<=64:=by unfold JW;rw[List.length_map];exact oa.len
 have lb:(JW (J0 b.2)).length<=64:=by unfold JW;rw[List.length_map];exact ob.len
 have hsz:Z3 (JC (JW (J0 a.2)) (JW (J0 b.2)))<=30000000:=yv la lb oa.sz ob.sz;have hpp:∀s∈JW (J0 a.2),∀t∈JW (J0 b.2),PW (Jq s.2 t.2):=λs hs t ht=>yp (oa.small s hs) (ob.small t ht) (by rw[hwa s hs];omega);have hpn:=AF (l:=JC (JW (J0 a.2)) (JW (J0 b.2))) λt ht=>by
  obtain⟨s,hs,t',ht',e⟩:=FY ht;rw[e];exact hpp s hs t' ht'
 have hll:(JC (JW (J0 a.2)) (JW (J0 b.2))).length<=4096:=by rw[PE];exact Nat.mul_le_mul la lb
 have hln:=SV (JC (JW (J0 a.2)) (JW (J0 b.2)));refine QHC 4 I<|V3 (κ:=vg 25) Vy λm=>Qg QEG λb9=>QZ (vs:=[_]) rfl rfl rfl Rs rfl .here .h1 wS<|QF4<|QG<|wR rfl<|QJ rfl (λ_ _ f k=>Wf f k.1.1.1 (a:=a) (k.1.1.2 a ha).1 (k.1.1.2 a ha).2 (ht a ha) oa hv) λc27=>JN _ (λ_ _ f h=>And.intro h.2.2.2.1 (And.intro h.2.len (And.intro h.2.2.2.2.2 λt ht=>(h.2.2.1 t ht).2.2.1))) λh27p=>?_
 obtain⟨e27,l27,m27,r27⟩:=h27p;refine QF5 rfl<|QJ rfl (λ_ _ f k=>Wf f k.1.1.1.1 (a:=b) (k.1.1.1.2 b hb).1 (k.1.1.1.2 b hb).2 (ht b hb) ob hv) λc29=>JN _ (λ_ _ f h=>And.intro h.2.2.2.1 (And.intro h.2.len (And.intro h.2.2.2.2.2 λt ht=>(h.2.2.1 t ht).2.2.1))) λh29p=>?_
 obtain⟨e29,l29,m29,r29⟩:=h29p;refine QJ I (λ_ _ f k=>IG (p:=c27.1) (q:=c29.1) f) (λc30=>QF4<|QS<|QCO (λG hG=>?_));have hgl:∀F,G F->JG F:=λF h=>by obtain⟨⟨⟨⟨⟨⟨hGl,hA⟩,hs20⟩,_⟩,h27⟩,h29⟩,h30⟩:=hG F h;exact hGl
 have hpr:∀F,G F->F c30.1=some (#[c27.1.v],87)/\F c30.2=some (#[c29.1.v],87)/\Jl F c27.1 c27.2 (JQ c27.2)/\Jl F c29.1 c29.2 (JQ c29.2):=λF h=>by
  obtain⟨⟨⟨⟨⟨⟨hGl,hA⟩,hs20⟩,_⟩,h27⟩,h29⟩,h30⟩:=hG F h;exact⟨h30.1,h30.2,by rw[e27];exact h27,by rw[e29];exact h29⟩
 have hvn:(v+1).toNat<=25:=O;have hlp:(JC (JQ c27.2) (JQ c29.2))=(JC (JW (J0 a.2)) (JW (J0 b.2))):=by rw[e27,e29]
 refine FN (ι:=QCF (v+1).toNat (JC (JW (J0 a.2)) (JW (J0 b.2)))) (λs=>[(b9,.cells [.map (some m)].toArray 82 (0,0)),(m,ZF Vy (SX s.ms))]) (λs F=>MsR F s.ms) (λs=>s.k=(JC (JW (J0 a.2)) (JW (J0 b.2))).length) rfl (enters_of func132 wy rfl) (λL D r W hrec hW=>?_) λD s hs=>?_
 ·have hprod:=Uw (ι:=QCF (v+1).toNat (JC (JW (J0 a.2)) (JW (J0 b.2)))) (w0:=w) (F0:=F) (B:=λs=>(L,.loop r)::(D,.deferred (some []))::(b9,.cells [.map (some m)].toArray 82 (0,0))::[(m,ZF Vy (SX s.ms))]) (H:=λs F=>G F/\MsR F s.ms) (pos:=λs=>s.k) (p:=c27) (q:=c29) (b1:=c30.1) (b2:=c30.2) (L:=L) (n:=(v+1).toNat)
   (λs F h=>hpr F h.1) ⟨m27,m29⟩
   ⟨λt ht=>⟨Zw e27 hwa t ht,by rw[<-r27 t ht];exact Zw e27 hwa t ht,Zw e27 hpa t ht⟩,λt ht=>⟨Zw e29 hwb t ht,by rw[<-r29 t ht];exact Zw e29 hwb t ht,Zw e29 hpb t ht⟩⟩ hvn O
   ⟨λt ht=>Nat.le_trans (Zw (Q:=λt=>Jn t.1<=2400) e27 oa.sz t ht) O,λt ht=>Nat.le_trans (Zw (Q:=λt=>Jn t.1<=2400) e29 ob.sz t ht) O⟩
   (λG' C s i j x W hi hj hk hst=>?_) ⟨0,[],Mk.nil⟩ rfl
  ·refine(hprod.2 W (hW.Dd λF h=>⟨h,λe he=>by cases he⟩)).mono ?_;rintro e w' ⟨c,rfl,h⟩;refine⟨⟨_,rfl⟩,c.1,?_,h⟩;have h1:=c.2;rw[h1,<-hlp,Nd,ZC,ZC]
  have hat:=jR hi hj;rw[hlp,<-hk]at hat;obtain⟨ta,hta⟩:∃ta,ta=el c27.2 i:=⟨_,rfl⟩;obtain⟨tb,htb⟩:∃tb,tb=el c29.2 j:=⟨_,rfl⟩;have hma:ta.t∈JW (J0 a.2):=by rw[hta,<-e27];exact List.mem_map_of_mem (JK hi)
  have hmb:tb.t∈JW (J0 b.2):=by rw[htb,<-e29];exact List.mem_map_of_mem (JK hj)
  rw[<-hta,<-htb]at hat hst ⊢;obtain⟨f,hfe⟩:∃f,f=ta.t.1*tb.t.1:=⟨_,rfl⟩;obtain⟨p,hpe⟩:∃p,p=Jq ta.t.2 tb.t.2:=⟨_,rfl⟩;have hpw:PW p:=by rw[hpe];exact hpp _ hma _ hmb
  have hpl:p.length=(v+1).toNat:=by rw[hpe,WT (by rw[hwa _ hma,hwb _ hmb]),hwa _ hma]
  rw[<-hfe,<-hpe]at hat;rw[<-hfe]at hst;rw[<-hpe];have htk:=yI hat;have hzf:Jn f<=20000000:=by have:=KO ta.t.1 tb.t.1;have:=oa.sz _ hma;have:=ob.sz _ hmb;rw[hfe];omega
  rcases dH hvn s.ms p 0 s.hI.wd hpl with ⟨hfm,hm⟩ | ⟨jj,t0,ht0,h0,hfm⟩
  ·refine Nk hst .here (by rw[hrec.params];rfl) (Ew hrec _ _ wu wu) ?_;rw[hrec.assign,hrec.body];refine Hc<|Zd (X6 L) (λ⟨_,_,h⟩=>h) rfl<|Qg yE λb10=>QZ (vs:=(YO p).1.map Q7) rfl rfl rfl Er (Ke _) .here (TN (by rw[Ke];rfl)) (TQ _)<|QE<|WX<|Zd (X6 L) (λ⟨_,_,h⟩=>h) rfl<|Qg KM λb11=>QZ (vs:=[_,_,_,_]) I I I Ql I .here .h4 wV<|QE<|OE .u2 hrec.state<|FQ<|Hc<|Hc<|Zd (X6 L) (λ⟨_,_,h⟩=>h) rfl<|QA (Qh I Rs .u4 .h1)<|QA (QR (vs:=(YO p).1.map Q7) rfl Er .u1 (Bu.all _) (Ke _))<|QA (SB Td I I PQ yC .u5 hfm)<|wB 3 I<|Qg KM λb12=>QZ (vs:=[_,_,_,_]) I I I Ql I .here .h4 wV<|wB 2 I ?_
   refine WX<|Hc<|Zd (X6 L) (λ⟨_,_,h⟩=>h) rfl<|wB 2 I<|WX ?_
   refine OB I (λhc=>?_) λhc=>?_
   ·cases hc
   refine vd ?_;refine WX<|Zd (X6 L) (λ⟨_,_,h⟩=>h) rfl<|QA (Qh I Rs .u5 .h1)<|QA (QR (vs:=(YO p).1.map Q7) rfl Er .u2 (Bu.all _) (Ke _))<|QA (wJ I Ql .u1)<|Hu (k:=YO p) (v:=x.v) Td I I I PQ .u6<|QE<|Qi ?_
   refine OD .u3 (λw1 hw1=>⟨rfl,⟨s.k+1,Eg s.ms ⟨x,(f,p)⟩,by rw[htk];exact s.hI.add hpw hpl (by rw[Sm hm,Rat.add_zero])⟩,rfl,?_⟩);rw[N5 hrec,<-PV hvn s.ms ⟨x,(f,p)⟩ s.hI.wd hpl]at hw1;exact St.imp hw1 (.cons _ (.cons _ (.cons _ QGJ))) (λF h=>⟨h.1.1,h.1.2.1,λe he=>by
    rcases DZ he with rfl | he
    ·exact h.2
    exact h.1.2.2 e he⟩)
  have hzc:=s.hI.sz ht0;have hzt:=pH (l:=(JC (JW (J0 a.2)) (JW (J0 b.2)))) (k:=s.k);have hc0:Jt (KR s.ms) p=t0.t.1:=by rw[<-h0];exact s.hI.Fc.Dt (List.mem_map_of_mem (f:=Ht.t) ht0)
  refine Nk hst .here (by rw[hrec.params];rfl) (Ew hrec _ _ wu wu) ?_;rw[hrec.assign,hrec.body];refine Hc<|Zd (X6 L) (λ⟨_,_,h⟩=>h) rfl<|Qg yE λb10=>QZ (vs:=(YO p).1.map Q7) rfl rfl rfl Er (Ke _) .here (TN (by rw[Ke];rfl)) (TQ _)<|QE<|WX<|Zd (X6 L) (λ⟨_,_,h⟩=>h) rfl<|Qg KM λb11=>QZ (vs:=[_,_,_,_]) I I I Ql I .here .h4 wV<|QE<|OE .u2 hrec.state<|FQ<|Hc<|Hc<|Zd (X6 L) (λ⟨_,_,h⟩=>h) rfl<|QA (Qh I Rs .u4 .h1)<|QA (QR (vs:=(YO p).1.map Q7) rfl Er .u1 (Bu.all _) (Ke _))<|QA (Ut Td I I PQ .u5 hfm)<|wB 3 I<|Qg KM λb12=>QZ (vs:=[_,_,_,_]) I I I Ql I .here .h4 wV<|wB 2 I ?_
  refine WX<|Hc<|Zd (X6 L) (λ⟨_,_,h⟩=>h) rfl<|wB 2 I<|WX ?_
  refine OB I (λhc=>?_) λhc=>?_
  ·refine Zd (X6 L) (λ⟨_,_,h⟩=>h) rfl ?_;refine QA (wJ I Ql .u1)<|QA (wJ I Ql .here)<|QJ I (λ_ _ g h=>Pj (x:=x) (y:=t0.x) (r:=f) (s:=t0.t.1) g h.2 (h.1.2.2 t0 ht0) O O) λx42=>QZ (vs:=[_,_,_,_]) I I I Ql I .u1 .h4 wV<|QE<|WX<|Zd (X6 L) (λ⟨_,_,h⟩=>h) rfl<|QA (Qh I Rs .u5 .h1)<|QA (QR (vs:=(YO p).1.map Q7) rfl Er .u2 (Bu.all _) (Ke _))<|QA (wJ I Ql .u1)<|Hu (k:=YO p) (v:=x42.v) Td I I I PQ .u6<|QE<|Qi ?_
   refine OD .u3 (λw1 hw1=>⟨rfl,⟨s.k+1,Eg s.ms ⟨x42,(f+t0.t.1,p)⟩,by rw[htk];exact s.hI.add hpw hpl (by rw[hc0])⟩,rfl,?_⟩);rw[N5 hrec,<-PV hvn s.ms ⟨x42,(f+t0.t.1,p)⟩ s.hI.wd hpl]at hw1;exact St.imp hw1 (.cons _ (.cons _ (.cons _ QGJ))) (λF h=>⟨h.1.1.1,h.1.1.2.1,λe he=>by
    rcases DZ he with rfl | he
    ·exact h.2
    exact h.1.1.2.2 e he⟩)
  cases hc
 letI:Df:=Bl D;have hI:Mk (v+1).toNat s.ms (JC (JW (J0 a.2)) (JW (J0 b.2))):=by have h:=s.hI;rw[hs,List.take_length]at h;exact h
 refine Qi<|QD<|QGi<|wQ rfl<|QG<|QGi<|QA (Qh rfl Rs .u1 .h1)<|MT (kv:=SX s.ms) (K:=Vy) rfl PQ .u2 λb47=>QF4<|QS<|Jo (ι:=MuJ s.ms) [(2,_),(47,_)] (λi=>[(14,i.v)]) (λi=>(b47,Ln m (SX s.ms).length i.seen)::(D,.deferred (some []))::(b9,.cells [.map (some m)].toArray 82 (0,0))::(m,ZF Vy (SX s.ms))::i.ob) (λi F=>WW F i.os) (λi=>s.ms.length-i.seen.length) (⟨[],[],_,0,[],.nil,List.nodup_nil,(λ_ h=>by cases h),rfl,rfl⟩) wT wS QGJ (λ_ _ _ h=>by cases h) λi=>?_
 simp only[List.cons_append,List.nil_append];refine QGi<|RD (kv:=SX s.ms) (K:=Vy) (b:=m) rfl .here .u3 λx hx=>QA (QX I (gh x))<|QF4<|QG ?_
 refine QP I (λhc=>?_) λhc=>?_
 ·obtain⟨j,rfl⟩:∃j,x=some j:=by
   cases x with
   |none=>cases hc
   |some j=>exact⟨j,rfl⟩
  obtain⟨hj,hjn⟩:=hx;rw[Lm]at hj;obtain⟨hs1,hs2,hs3⟩:=R6 i.nd i.lt hj hjn;have htm:=JK hj;have hkj:(SX s.ms)[j]?=some (YO (el s.ms j).t.2,(el s.ms j).x.v):=by rw[SX,List.getElem?_map,List.getElem?_eq_getElem hj,J4 hj];rfl
  generalize hte:el s.ms j=t at htm hkj;have htw:=hI.wd t htm;have htp:=hI.pw t htm;refine QHC 5 I<|QA (LV (kv:=SX s.ms) (K:=Vy) (p:=(YO t.t.2,t.x.v)) I .here .u3 hkj)<|wB 2 I<|Qg yE λb15=>Qg KM λb16=>QZ (vs:=(YO t.t.2).1.map Q7) rfl rfl rfl Er (Ke _) .u1 (TN (by rw[Ke];rfl)) (TQ _)<|QZ (vs:=[_,_,_,_]) I I I Ql I .here .h4 wV<|QF4<|QGi<|QA (wJ I Ql .here)<|QJ I (λ_ _ f k=>En f (k.1.2 t htm)) λ_=>QHB 3 I ?_
  refine QP I (λhc=>?_) λhc=>?_
  ·have hnz:t.t.1≠0:=λe=>by rw[e]at hc;cases hc
   refine BQ (b:=b15) .u1<|JL (List.sublist_append_left [_,_,_,_,_] i.ob) mixed wm<|QL (QC I)<|QL (wJ I Ql .here)<|QL (QC I)<|QL (Qm I I O)<|QL (IC (h:=(v+1).toNat) rfl wM xr Qu O)<|Qc I (λ_ _ f k=>Ts (r:=⟨some ⟨b15,0,none⟩,(v+1).toNat,25⟩) f (qz k.2 htw O) (by rw[htw];omega)) λc61=>QL (XL I U4 Ye (.cons (vs:=[_,_,_,_]) I I I .h4 (.cons (vs:=[_]) I I I (.skip (.skip (.skip (.skip .h1)))) .nil))) ?_
   refine Jd I (JU ZA) Ju Ye I I (λb63=>?_) (λw h=>h.imp (.cons_cons _ (.cons_cons _ (.cons_cons _ (.cons_cons _ (.cons_cons _ tD))))) tA);refine FR (List.perm_append_comm (l₁:=[_,_,_,_,_])) ?_;refine B4 (n:=i.n) (k:=1) (sz:=5) (news:=Y2 ⟨t.x,c61,t.t⟩) I I ZA Ju Ye I CO i.hr (Src.row (off:=0) tB (λj v hv=>by rw[Nat.zero_add];show((Y2 ⟨t.x,c61,t.t⟩).toArray)[j]?=some v;rw[List.getElem?_toArray];exact hv) rfl) (by have:=i.bound;have:=hI.ln;omega) (by have:=i.bound;have:=hI.ln;omega) (Lb _) QGJ (λ_ h=>h.1.1) (λv64 ob64 hr64=>?_);refine FR (List.perm_append_comm (l₂:=[_,_,_,_,_]))<|QL (QF I)<|Q3<|Qi ?_
   exact Qj (⟨i.seen++[j],i.os++[⟨t.x,c61,t.t⟩],v64,i.n+1,ob64,by rw[List.flatMap_append];simpa using hr64,hs1,hs2,by rw[List.length_append,i.hn];rfl,kA hte hnz i.ho I⟩) (by show _-(i.seen++[j]).length<_;rw[List.length_append];simp only[List.length_singleton];omega) wU (.cons _ QGJ) (λF ⟨⟨⟨⟨⟨⟨hG0,hMs⟩,hOs⟩,_⟩,hk15⟩,h61⟩,hs63⟩=>⟨⟨hG0,hMs⟩,λo ho=>by
  rcases List.mem_append.1 ho with ho | ho
  ·exact hOs o ho
  ·rw[List.mem_singleton.1 ho];exact⟨hMs t htm,h61⟩⟩)
  have hz:t.t.1=0:=R5.1 (by simpa using hc);refine QM<|Qi ?_
  exact Qj (⟨i.seen++[j],i.os,i.v,i.n,i.ob,i.hr,hs1,hs2,i.hn,uC hte hz i.ho⟩) (by show _-(i.seen++[j]).length<_;rw[List.length_append];simp only[List.length_singleton];omega) wU (.cons _ (.cons _ QGJ)) λF h=>⟨h.1.1,h.1.2⟩
 obtain rfl:x=none:=by
  cases x with
  |none=>rfl
  |some j=>cases hc
 rw[show nxP (SX s.ms).length i.seen none=∀j,j<(SX s.ms).length->j∈i.seen from rfl,Lm]at hx;refine Qv ?_
 repeat first|refine QV ?_|refine QQ wy ?_
 refine QW<|QD<|wR I<|XA I (List.perm_append_comm (l₁:=[_,_,_,_]) (l₂:=i.ob)) (qj xh i.hr tB (MuJ.mem hI i) i.hn (by have:=i.bound;have:=hI.ln;omega)) λc=>JN _ (λ_ _ f h=>h.2) λhso=>?_
 have hmn:JQ c.1=JX (JC (JW (J0 a.2)) (JW (J0 b.2))):=jr hI i.nd i.lt hx i.ho hso.2.1 hso.2.2;obtain⟨r,hv2,hrn,hrc,hfix⟩:=Q6.fix (w0:=w) (F0:=F) (bs1:=[(b47,Ln m (SX s.ms).length (nxS i.seen none)),(D,.deferred (some [])),(b9,.cells [.map (some m)].toArray 82 (0,0)),(m,ZF Vy (SX s.ms))]) (G:=_) hso.1;refine X1 (List.perm_append_comm (l₁:=c.2))<|vc hfix ?_
 rw[hv2];refine QHB 5 I<|QJ I (λ_ _ f k=>Uq f (q:=r.q) (n:=r.n) (cap:=r.cap) (ts:=c.1) ⟨by rw[hrn];exact k.2,λt ht=>k.1.1.2 t (hso.2.1.mem_iff.1 ht),rfl,by rw[hrn];exact hrc,hso.2.1.length_eq.trans (i.hn.trans hrn.symm)⟩ (hgl _ k.1.1.1.1) (Zw hmn hpn) (λt htm=>Nat.le_trans (Rz (Zw hmn w9 t htm)) O) (by have:=congrArg List.length hmn;simp only[ZC]at this;omega)) λc68=>?_
 rw[hmn];refine QHB 7 I<|uu .u1 ?_
 exact J9 (c68) rfl (wO I I) (by unfold gW;rw[if_pos hc0];rfl) λF h9=>by unfold gV;rw[if_pos hc0];exact h9.2
def FX(f:List UInt8)(b:Nat)(k:List Int):Gn:=⟨f,⟨some ⟨b,0,none⟩,k.length,k.length⟩,k⟩
def zh(b:Nat)(ts:List Gn):K8:=(⟨some ⟨b,0,none⟩,ts.length,ts.length⟩,ts)
def BF{k:List Int}{T:TypeId}(h:F b=some ((k.map Q7).toArray,T)):JP F ⟨some ⟨b,0,none⟩,k.length,k.length⟩ k:=⟨Qy.of h wz,rfl,Nat.le_refl _⟩
theorem Ka.Cu{s:Sr}{ts:List Gn}{p:Pt}(h:Ka F s ts p)(hp:∀e∈p,e.1.length<=1000000/\e.2.length<=1000000)(hl:p.length<=1000000):BP (s,ts):=by
 refine⟨h.2.2.2.2,λt ht=>?_,?_⟩
 ·have:(t.f,t.k)∈J0 ts:=List.mem_map.2 ⟨t,ht,rfl⟩;rw[h.2.2.1]at this;exact hp _ this
 have:=congrArg List.length h.2.2.1;simp only[J0,List.length_map]at this;show ts.length<=_;omega
theorem AO{a b:K8}{v:Int}{P Q R:Pt}(hF:Fits F w)(hGl:JG F)(hA:KL F [a,b])(ht:∀e∈[a,b],BP e)(hP:J0 a.2=P)(hQ:J0 b.2=Q)(hc:VC v=0)(h1:XB P v=0)(h2:XB Q v=0)(h3:RH (JX (JC (JW P) (JW Q)))=0)(h4:F7 (JX (JC (JW P) (JW Q)))=R):
  QU prog 9 [a.1.v,b.1.v,.int .i64 v] w F (λ(c:K8)=>.tuple #[c.1.v,.int .i64 0]) (λc F=>Ka F c.1 c.2 R):=by
 have h:=Ot hF hGl hA ht (v:=v);have e:P9 [a,b] v=0:=by simp[P9,hc,hP,hQ,h1,h2,Qn]
 rw[gW,gV,if_pos e,if_pos e,hP,hQ,h3,h4]at h;exact h
structure Bd(p:List Tm)(k c z:Nat)(d:Int):Prop where
 can:Canon p
 wd:Xw k p
 nn:∀t∈p,(∀x∈t.2,0<=x)/\t.2.sum<=d
 ln:p.length<=c
 sz:∀t∈p,Jn t.1<=z
def qc:∀ {l:List Int},(∀x∈l,0<=x)->0<=l.sum
 |[],_=>Int.le_refl _
 |a::l,h=>by
  have h1:=qc (l:=l) λx hx=>h x (List.mem_cons_of_mem _ hx);have h2:=h a List.mem_cons_self;rw[List.sum_cons];omega
def QBX(h:∀x∈l,0<=x):∀x∈l,x<=l.sum:=by
 induction l with
 |nil=>intro x hx;cases hx
 |cons a l ih =>
  intro x hx;have h0:0<=l.sum:=qc (λy hy=>h y (List.mem_cons_of_mem _ hy));have ha:=h a List.mem_cons_self;rw[List.sum_cons];rcases List.mem_cons.1 hx with rfl | hx
  ·omega
  have:=ih (λy hy=>h y (List.mem_cons_of_mem _ hy)) x hx;omega
def cw{a b:List Int}(h:a.length=b.length)(ha:∀x∈a,0<=x)(hb:∀x∈b,0<=x):(∀x∈Jq a b,0<=x)/\(Jq a b).sum=a.sum+b.sum:=by
 induction a generalizing b with
 |nil=>cases b with
  |nil=>exact⟨λx hx=>(by cases hx),rfl⟩
  |cons y b=>simp at h
 |cons x a ih=>cases b with
  |nil=>simp at h
  |cons y b =>
   have:=ih (b:=b) (by simpa using h) (λx hx=>ha x (List.mem_cons_of_mem _ hx)) (λx hx=>hb x (List.mem_cons_of_mem _ hx));have h1:=ha x List.mem_cons_self;have h2:=hb y List.mem_cons_self;show(∀z∈(x+y)::Jq a b,0<=z)/\((x+y)::Jq a b).sum=_;refine⟨λz hz=>?_,?_⟩
   ·rcases List.mem_cons.1 hz with rfl | hz
    ·omega
    exact this.1 z hz
   rw[List.sum_cons,this.2,List.sum_cons,List.sum_cons];omega
def UP(c:Rat)(xs:List Rat)(ks:List Int):∀n,Ep c xs ks n=c*Ep 1 xs ks n
 |0=>by show c=c*1;rw[Rat.mul_one]
 |n+1=>by rw[Bv,Bv,UP c xs ks n,Rat.mul_assoc]
def QAP(xs:List Rat)(ks:List Int):Rat:=Ep 1 xs ks ks.length
def CA(xs:List Rat)(l:List Tm):Ay xs l=Z0 (QAP xs) l:=by
 have key:∀(l:List Tm) (a:Rat),l.foldl (λa t=>a+Ep t.1 xs t.2 t.2.length) a=a+Z0 (QAP xs) l:=by
  intro l
  induction l with
  |nil=>intro a;simp[Z0,Rat.add_zero]
  |cons t l ih=>intro a;rw[List.foldl_cons,ih,Z0,UP,Rat.add_assoc];rfl
 unfold Ay;rw[key,Rat.zero_add]
theorem Lw:∀ {a b:List Int} (j:Nat),a.length=b.length->Qd (Jq a b) j=Qd a j+Qd b j
 |[],[],j,_=>by simp[Qd,Jq]
 |[],_::_,_,h=>by simp at h
 |_::_,[],_,h=>by simp at h
 |x::a,y::b,0,_=>rfl
 |x::a,y::b,j+1,h=>by
  have:=Lw (a:=a) (b:=b) j (by simpa using h);have d:∀(z:Int) (l:List Int),Qd (z::l) (j+1)=Qd l j:=λz l=>by simp[Qd]
  show Qd ((x+y)::Jq a b) (j+1)=_;rw[d,d,d];exact this
def dY(z:Int):Cb (XV z)=Lib.decDigits z.natAbs:=by
 have h:=Uc ((z:Int):Rat);rw[kY,show((z:Int):Rat).num=z from by simp]at h;unfold Cb;rw[h];unfold EF;by_cases h0:z<0
 ·rw[if_pos h0,if_pos wu,ZT h0];rfl
 rw[if_neg h0,Jh O,if_neg (by split<;>decide)]
theorem Ly(x y:Rat):Wx x y<=0↔x<=y:=by
 unfold Wx;by_cases h:x<y
 ·rw[if_pos h];exact⟨λ_=>Rat.le_of_lt h,λ_=>wu⟩
 rw[if_neg h];by_cases e:x=y
 ·rw[if_pos e,e];exact⟨λ_=>Rat.le_refl,λ_=>wu⟩
 rw[if_neg e];refine⟨λk=>absurd k wu,λk=>absurd (Rat.lt_of_le_of_ne k e) h⟩
theorem vD(x y:Rat):Wx x y>=0↔y<=x:=by
 unfold Wx;by_cases h:x<y
 ·rw[if_pos h];exact⟨λk=>absurd k wu,λk=>absurd k (Rat.not_le.2 h)⟩
 rw[if_neg h];refine⟨λ_=>Rat.not_lt.1 h,λ_=>?_⟩;split<;>decide
def Lx(x y:Rat):Wx x y<0↔x<y:=by
 rw[<-Rat.not_le,<-vD];omega
def Tq(x y:Rat):Wx x y>0↔y<x:=by
 rw[<-Rat.not_le,<-Ly];omega
def Mr(x:Rat)(a:Rat×Rat):Prop:=a.1<=x/\x<=a.2
theorem qK(s:Rat×Rat)(x:Rat):(XR s x).1<=s.1/\s.2<=(XR s x).2/\Mr x (XR s x)\/¬s.1<=s.2:=by
 by_cases h:s.1<=s.2
 ·left;unfold XR Mr;dsimp only;by_cases h1:x<s.1
  ·rw[if_pos ((Lx x s.1).2 h1),if_neg (λk=>by have:=(Tq x s.2).1 k;grind)]
   grind
  rw[if_neg (λk=>h1 ((Lx x s.1).1 k))];by_cases h2:s.2<x
  ·rw[if_pos ((Tq x s.2).2 h2)];grind
  rw[if_neg (λk=>h2 ((Tq x s.2).1 k))];grind
 exact .inr h
theorem MH:∀(l:List Rat) (s:Rat×Rat),s.1<=s.2->((l.foldl XR s).1<=s.1/\s.2<=(l.foldl XR s).2)/\∀y∈l,Mr y (l.foldl XR s)
 |[],s,_=>⟨⟨Rat.le_refl,Rat.le_refl⟩,λy hy=>by cases hy⟩
 |x::l,s,h=>by
  rcases qK s x with ⟨h1,h2,h3⟩ | h1
  ·obtain⟨⟨g1,g2⟩,g3⟩:=MH l (XR s x) (by unfold Mr at h3;grind);unfold Mr at h3;refine⟨⟨Rat.le_trans g1 h1,Rat.le_trans h2 g2⟩,λy hy=>?_⟩;rcases List.mem_cons.1 hy with rfl | hy
   ·exact⟨Rat.le_trans g1 h3.1,Rat.le_trans h3.2 g2⟩
   exact g3 y hy
  exact absurd h h1
def Vz{r:Rat}{l:List Rat}{y:Rat}(h:y∈r::l):Mr y (YK r l):=by
 obtain⟨h1,h2⟩:=MH l (r,r) Rat.le_refl;rcases List.mem_cons.1 h with rfl | h
 ·exact h1
 exact h2 y h
theorem Ix(l:List Rat):∀(s:Rat×Rat),((l.foldl XR s).1=s.1\/(l.foldl XR s).1∈l)/\((l.foldl XR s).2=s.2\/(l.foldl XR s).2∈l):=by
 induction l with
 |nil=>intro s;exact⟨.inl rfl,.inl rfl⟩
 |cons x l ih =>
  intro s;obtain⟨h1,h2⟩:=ih (XR s x);rw[List.foldl_cons];have w1:(XR s x).1=s.1\/(XR s x).1=x:=by unfold XR;dsimp only;split;exact .inr rfl;exact .inl rfl
  have w2:(XR s x).2=s.2\/(XR s x).2=x:=by unfold XR;dsimp only;split;exact .inr rfl;exact .inl rfl
  constructor
  ·rcases h1 with h1 | h1
   ·rw[h1];rcases w1 with w | w
    ·exact .inl w
    exact .inr (by rw[w];exact List.mem_cons_self)
   exact .inr (List.mem_cons_of_mem _ h1)
  rcases h2 with h2 | h2
  ·rw[h2];rcases w2 with w | w
   ·exact .inl w
   exact .inr (by rw[w];exact List.mem_cons_self)
  exact .inr (List.mem_cons_of_mem _ h2)
def HM(r:Rat)(l:List Rat):(YK r l).1∈r::l/\(YK r l).2∈r::l:=by
 obtain⟨h1,h2⟩:=Ix l (r,r);unfold YK;refine⟨?_,?_⟩
 ·rcases h1 with h | h
  ·rw[h];exact List.mem_cons_self
  exact List.mem_cons_of_mem _ h
 rcases h2 with h | h
 ·rw[h];exact List.mem_cons_self
 exact List.mem_cons_of_mem _ h
def yb(a b:Rat×Rat):Prop:=b.1<=a.1/\a.1<=a.2/\a.2<=b.2
def pI{a b:Rat×Rat}(h1:Mr a.1 b)(h2:Mr a.2 b)(h:a.1<=a.2):yb a b:=⟨h1.1,h,h2.2⟩
theorem OL(a b:Rat×Rat):(Z5 a b).1<=(Z5 a b).2:=by
 have:=Vz (r:=a.1*b.1) (l:=[a.1*b.2,a.2*b.1,a.2*b.2]) List.mem_cons_self;exact Rat.le_trans this.1 this.2
theorem Hg{y:Rat}{a b:Rat×Rat}(hx:Mr x a)(hy:Mr y b):Mr (x*y) (Z5 a b):=by
 have c11:Mr (a.1*b.1) (Z5 a b):=Vz wz;have c12:Mr (a.1*b.2) (Z5 a b):=Vz wz;have c21:Mr (a.2*b.1) (Z5 a b):=Vz wz;have c22:Mr (a.2*b.2) (Z5 a b):=Vz wz;generalize Z5 a b=t at *
 obtain⟨x1,x2⟩:=hx;obtain⟨y1,y2⟩:=hy;unfold Mr at *
 have e1:Mr (a.1*y) t:=by
  rcases Rat.le_total (a:=0) (b:=a.1)with h | h
  ·have:=Rat.mul_le_mul_of_nonneg_left y1 h;have:=Rat.mul_le_mul_of_nonneg_left y2 h;unfold Mr;grind
  have h':0<=-a.1:=by grind
  have:=Rat.mul_le_mul_of_nonneg_left y1 h';have:=Rat.mul_le_mul_of_nonneg_left y2 h';unfold Mr;grind
 have e2:Mr (a.2*y) t:=by
  rcases Rat.le_total (a:=0) (b:=a.2)with h | h
  ·have:=Rat.mul_le_mul_of_nonneg_left y1 h;have:=Rat.mul_le_mul_of_nonneg_left y2 h;unfold Mr;grind
  have h':0<=-a.2:=by grind
  have:=Rat.mul_le_mul_of_nonneg_left y1 h';have:=Rat.mul_le_mul_of_nonneg_left y2 h';unfold Mr;grind
 unfold Mr at e1 e2;rcases Rat.le_total (a:=0) (b:=y)with h | h
 ·have:=Rat.mul_le_mul_of_nonneg_right x1 h;have:=Rat.mul_le_mul_of_nonneg_right x2 h
  grind
 have h':0<=-y:=by grind
 have:=Rat.mul_le_mul_of_nonneg_right x1 h';have:=Rat.mul_le_mul_of_nonneg_right x2 h'
 grind
def YT{y:Rat}(h0:0<=x)(h:x<=y):∀n:Nat,x^n<=y^n
 |0=>by rw[Rat.pow_zero,Rat.pow_zero];exact Rat.le_refl
 |n+1=>by
  have ih:=YT h0 h n;have hx:0<=x^n:=Rat.pow_nonneg h0;rw[Rat.pow_succ,Rat.pow_succ];have h1:=Rat.mul_le_mul_of_nonneg_left h hx;have h2:=Rat.mul_le_mul_of_nonneg_right ih (Rat.le_trans h0 h);exact Rat.le_trans h1 h2
theorem pM(x:Rat):EF x.num<0↔x<0:=by
 rw[TA];by_cases h:x<0
 ·rw[if_pos h];exact⟨λ_=>h,λ_=>wu⟩
 rw[if_neg h];refine⟨λk=>?_,λk=>absurd k h⟩;split at k<;>omega
theorem yX(x:Rat):EF x.num>0↔0<x:=by
 rw[TA];by_cases h:x<0
 ·rw[if_pos h];refine⟨λk=>O,λk=>?_⟩;grind
 rw[if_neg h];by_cases e:x=0
 ·rw[if_pos e];refine⟨λk=>O,λk=>?_⟩;grind
 rw[if_neg e];refine⟨λ_=>?_,λ_=>wu⟩;grind
section
variable{xs:List Rat}{rs bs:List (Rat×Rat)}{ks:List Int}
def OM(x y:Rat):Z5 (x,x) (y,y)=(x*y,x*y):=by
 have h:=HM (x*y) [x*y,x*y,x*y];simp only[List.mem_cons,List.not_mem_nil,or_false,or_self]at h;exact Prod.ext h.1 h.2
theorem pow_one(x:Rat){n:Int}(hn:0<=n):PF (x,x) n=(x^n.toNat,x^n.toNat):=by
 have h:=HM (x^n.toNat) [x^n.toNat];simp only[List.mem_cons,List.not_mem_nil,or_false,or_self]at h;unfold PF;dsimp only;rw[if_neg]
 ·exact Prod.ext h.1 h.2
 intro hc;simp only[Bool.and_eq_true,decide_eq_true_eq]at hc;have h3:=(pM _).1 hc.2.2.1;have h4:=(yX _).1 hc.2.2.2
 grind
def UO{c:Rat}(hk:∀k∈ks,0<=k)(hx:∀i,i<rs.length->el rs i=(el xs i,el xs i)):∀m,m<=rs.length->Gq (c,c) rs ks m=(Ep c xs ks m,Ep c xs ks m)
 |0,_=>rfl
 |m+1,hm=>by
  have ih:=UO (c:=c) hk hx m O;have h0:=FF hk m;rw[Bv,He,ih,hx m O];by_cases g:Qd ks m>0
  ·rw[if_pos g,pow_one _ h0,OM]
  rw[if_neg g,show(Qd ks m).toNat=0 by omega,Rat.pow_zero,Rat.mul_one]
def zk{l:List Tm}(hl:∀t∈l,t.2.length<=rs.length/\∀k∈t.2,0<=k)(hx:∀i,i<rs.length->el rs i=(el xs i,el xs i)):B0 rs l=(Ay xs l,Ay xs l):=by
 have key:∀(l:List Tm) (a:Rat),(∀t∈l,t.2.length<=rs.length/\∀k∈t.2,0<=k)->l.foldl (λa t=>Ca a (Gq (t.1,t.1) rs t.2 t.2.length)) (a,a)=(l.foldl (λa t=>a+Ep t.1 xs t.2 t.2.length) a,l.foldl (λa t=>a+Ep t.1 xs t.2 t.2.length) a):=by
  intro l
  induction l with
  |nil=>intro a _;rfl
  |cons t l ih =>
   intro a hl;obtain⟨h1,h2⟩:=hl t List.mem_cons_self;rw[List.foldl_cons,List.foldl_cons,UO h2 hx t.2.length h1];exact ih _ λu hu=>hl u (List.mem_cons_of_mem _ hu)
 exact key l 0 hl
end
abbrev SpQ:=Rat×Rat
def Cl(Q d b:Nat)(x:Rat):Prop:=∃z:Int,x=Rat.divInt z ((Q^d:Nat):Int)/\z.natAbs<=2^b*Q^d
theorem Cl.add{d:Nat}{y:Rat}(h0:0<Q)(hx:Cl Q d b x)(hy:Cl Q d b y):Cl Q d (b+1) (x+y):=by
 obtain⟨z,rfl,h1⟩:=hx;obtain⟨u,rfl,h2⟩:=hy;have hq:((Q^d:Nat):Int)≠0:=wk (Nat.pow_pos (n:=d) h0);refine⟨z+u,?_,?_⟩
 ·rw[Rat.divInt_add_divInt _ _ hq hq,<-Int.add_mul,Rat.divInt_mul_right hq]
 have:(z+u).natAbs<=z.natAbs+u.natAbs:=Int.natAbs_add_le z u;rw[Nat.pow_succ];have e:2^b*2*Q^d=2^b*Q^d+2^b*Q^d:=by rw[Nat.mul_assoc,Nat.mul_comm 2,<-Nat.mul_assoc,Nat.mul_two]
 omega
theorem Cl.mono{d e c:Nat}(h0:0<Q)(h:Cl Q d b x)(hd:d<=e)(hb:b<=c):Cl Q e c x:=by
 obtain⟨z,rfl,h1⟩:=h;obtain⟨k,rfl⟩:=Nat.le.dest hd;have hq:((Q^d:Nat):Int)≠0:=wk (Nat.pow_pos (n:=d) h0);have hk:((Q^k:Nat):Int)≠0:=wk (Nat.pow_pos (n:=k) h0);refine⟨z*((Q^k:Nat):Int),?_,?_⟩
 ·rw[Nat.pow_add,Int.natCast_mul,Rat.divInt_mul_right hk]
 rw[Int.natAbs_mul,Nat.pow_add,Int.natAbs_natCast,<-Nat.mul_assoc];exact Nat.mul_le_mul (Nat.le_trans h1 (Nat.mul_le_mul_right _ (Nat.pow_le_pow_right wu hb))) (Nat.le_refl _)
theorem Cl.Jn{Q d:Nat}(h0:0<Q)(h:Cl Q d b x):Jn x<=b+d*sz (Q:Int)+2:=by
 obtain⟨z,rfl,h1⟩:=h;have hq:((Q^d:Nat):Int)≠0:=wk (Nat.pow_pos (n:=d) h0);refine Nat.le_trans (Vh hq) ?_;have e:((Q^d:Nat):Int)=(Q:Int)^d:=Int.natCast_pow Q d;have h2:sz ((Q^d:Nat):Int)<=d*sz (Q:Int)+1:=by rw[e];exact DE _ _
 have h3:sz z<=b+1+sz ((Q^d:Nat):Int):=by
  refine Nat.le_trans (Kl (b:=((2^b:Nat):Int)*((Q^d:Nat):Int)) (by rw[Int.natAbs_mul,Int.natAbs_natCast,Int.natAbs_natCast];exact h1)) ?_;refine Nat.le_trans (ZQ _ _) (Nat.add_le_add_right ?_ _);rw[XF,Int.natAbs_natCast];exact Nat.pow_lt_pow_right wu O
 omega
theorem Cl.of(x:Rat)(h0:0<Q)(h:x.den ∣ Q){b:Nat}(hb:sz x.num<=b):Cl Q 1 b x:=by
 obtain⟨k,rfl⟩:=h;have hk:0<k:=Nat.pos_of_mul_pos_left h0 |> λ_=>Nat.pos_of_ne_zero (by rintro rfl;simp at h0)
 have hk':(k:Int)≠0:=O;refine⟨x.num*k,?_,?_⟩
 ·rw[Nat.pow_one,Int.natCast_mul,Rat.divInt_mul_right hk',Rat.num_divInt_den]
 rw[Nat.pow_one,Int.natAbs_mul,Int.natAbs_natCast];have h1:=(XF x.num b).1 hb;have h2:k<=x.den*k:=Nat.le_mul_of_pos_left k x.den_pos;exact Nat.mul_le_mul O h2
theorem Y3:Zm prog 26=some (true,3):=wm
theorem pC:XE prog 26=some [.slice none 0 0,.slice none 0 0,.slice none 0 0]:=wm
theorem QBK:Y8 prog 26=some [(0,1),(1,1),(2,1)]:=wm
theorem WB:VS prog 26 0=some (0,22):=wm
theorem Pl:VS prog 26 1=some (1,23):=wm
theorem Bp:VS prog 26 2=some (2,24):=wm
theorem Ki:Zm prog 109=some (true,5):=wm
theorem Nj:XE prog 109=some [.slice none 0 0,.slice none 0 0,.slice none 0 0,.int .i64 0,.slice none 0 0]:=wm
theorem pv:Y8 prog 109=some [(0,3),(3,1),(4,1)]:=wm
theorem Lv:VS prog 109 0=some (0,26):=wm
theorem Tl:VS prog 109 1=some (3,3):=wm
theorem M4:VS prog 109 2=some (4,107):=wm
section
open Go Go.RowKit Ig
section
variable[Dr][df:Df]{P:Program}{Q:Exit->Act->World->Prop}{N:Nat}{m:Sl}{l:List Oper}{w0:World}{F0:Gs}{bs bs0:List (Nat×Obj)}{G G0:Gs->Prop}
def UF:List Nat->List (List Nat)
 |[]=>[[]]
 |i::A=>(UF A).map (i::·)++UF A
def MV(l:List Oper)(r u:List Nat):List Nat:=(List.range l.length).filter λi=>r.contains i||u.contains i
theorem DI:∀ {A u:List Nat},u∈UF A->∀i∈u,i∈A
 |[],u,h,i,hi=>by simp only[UF,List.mem_singleton]at h;subst h;cases hi
 |a::A,u,h,i,hi=>by
  simp only[UF,List.mem_append,List.mem_map]at h;rcases h with ⟨v,hv,rfl⟩ | h
  ·rcases List.mem_cons.1 hi with rfl | hi
   ·simp
   exact List.mem_cons_of_mem _ (DI hv i hi)
  exact List.mem_cons_of_mem _ (DI h i hi)
theorem ED:∀ {A u:List Nat},A.Nodup->u∈UF A->u.Nodup
 |[],u,_,h=>by simp only[UF,List.mem_singleton]at h;subst h;exact List.nodup_nil
 |a::A,u,hA,h=>by
  rw[List.nodup_cons]at hA;simp only[UF,List.mem_append,List.mem_map]at h;rcases h with ⟨v,hv,rfl⟩ | h
  ·rw[List.nodup_cons];exact⟨λhm=>hA.1 (DI hv a hm),ED hA.2 hv⟩
  exact ED hA.2 h
theorem RN{A u:List Nat}{i:Nat}(hA:A.Nodup)(hu:u.Nodup)(hiA:i∈A)(hi:i∈u):(A.filter λj=>!((u.erase i).contains j)).Perm (i::A.filter λj=>!(u.contains j)):=by
 refine(List.perm_ext_iff_of_nodup (hA.filter _) (List.nodup_cons.2 ⟨λh=>?_,hA.filter _⟩)).2 λj=>?_
 ·have:=(List.mem_filter.1 h).2;simp[hi]at this
 rw[List.mem_cons,List.mem_filter,List.mem_filter];simp only[Bool.not_eq_true',List.contains_eq_mem,decide_eq_false_iff_not];rw[hu.mem_erase_iff];by_cases e:j=i
 ·subst e;simp[hiA]
 simp[e]
theorem PT:∀(x y:Sl) (t:Nat),look (x++y) t=(look x t).or (look y t)
 |[],_,_=>rfl
 |(s,v)::x,y,t=>by
  show(bif Nat.beq s t then some v else look (x++y) t)=(bif Nat.beq s t then some v else look x t).or (look y t);cases Nat.beq s t with
  |true=>rfl
  |false=>exact PT x y t
theorem Nf:∀ {m:Sl} {t:Nat},(m.map (·.1)).contains t=false->look m t=none
 |[],_,_=>rfl
 |(k,v)::m,t,h=>by
  rw[List.map_cons,List.contains_cons,Bool.or_eq_false_iff]at h;show(bif Nat.beq k t then some v else look m t)=none;have:Nat.beq k t=false:=by
   cases e:Nat.beq k t with
   |false=>rfl
   |true=>have:=Nat.eq_of_beq_eq_true e;subst this;simp at h
  rw[this];exact Nf h.2
section
variable{A r:List Nat}{ty:TypeId}{pos:String}{aft:Array Edge}
theorem Gf.skip{l r:List (Nat×Obj)}{o:Obj}{f:Obj->List (Nat×Obj)}(h:Gf l b o f r):∀p:List (Nat×Obj),Gf (p++l) b o (λo'=>p++f o') (p++r)
 |[]=>h
 |_::p=>.there (h.skip p)
end
end
end
def pf{vs:List Value}{z v:Value}(h:vs.length=i)(hi:i<n):Ym (vs++XP [z] (n-i)) (0+i*1+0) [v] ((vs++[v])++XP [z] (n-(i+1))):=by
 rw[show n-i=(n-(i+1))+1 by omega,XP,List.append_assoc,show 0+i*1+0=vs.length by omega];exact FW I
theorem ka{c f:Nat}{l:List (Fr×Rat)}{p:(Fr×Rat)->Bool}(hF:Fits F w)(hg:∀F F',Gs.le F F'->G0 F->G0 F')(h0:G0 F)(hR:Qy F q n 4 (l.flatMap λe=>B6 e.1))(hn:l.length=n)(hb:n<=1000000)(hc:∀e∈l,∀w F,Fits F w->G0 F->Qb prog f (c1++[e.1.v]++c2) w F (.bool (p e))):QU prog 209 [.slice q n c,.func (.func f) c1.toArray c2.toArray] w F (λ(k:Int)=>.int .i64 k) (λk _=>decide (k>=0)=l.any p):=by
 refine QU.intro (G:=λF=>G0 F/\Qy F q n 4 (l.flatMap λe=>B6 e.1)) func209 rfl wy rfl rfl hF (λF' hF'=>⟨hg F F' hF' h0,hR.le hF'⟩)<|QGi<|wQ rfl<|QG<|wR rfl<|QA (Qf rfl X4)<|QF5 rfl<|QF4<|QS<|J2 (ι:=Dx l p) [(0,_),(1,_),(7,_)] (λi=>[(8,.int .i64 ((i.i:Nat):Int))]) (λi=>l.length-i.i) (Dx.start _ _) wU wS λi=>?_
 simp only[List.cons_append,List.nil_append];have hi:=i.le;refine wA 6 I ?_;refine QP I (λhc2=>?_) λhc2=>?_
 ·have hlt:i.i<l.length:=wk<|QGx hc2
  have hem:=JK hlt;refine QHC 15 I<|QA (Q2 (n:=n) i.i tB rfl rfl X4 Ql O)<|QA (XZ (n:=n) (vs:=[.int .i64 (el l i.i).1.n.s,.slice (el l i.i).1.n.q (el l i.i).1.n.n (el l i.i).1.n.cap,.int .i64 (el l i.i).1.d.s,.slice (el l i.i).1.d.q (el l i.i).1.d.n (el l i.i).1.d.cap]) ((i.i)*4) tB O I Ql I λj v hv=>Jg (f:=(λe=>B6 e.1)) (l:=l) (λ_=>rfl) O hv)<|KG (c1:=c1) (c2:=c2) rfl rfl (λw F f k=>hc _ hem w F f k.1) λ_=>QE<|QD ?_
  refine QP I (λhc2=>?_) λhc2=>?_
  ·have hc16:=hc2;refine wA 7 I ?_
   repeat first|refine Qw ?_|refine Qp ?_
   exact QO (((i.i:Nat):Int)) I (wN I) (rfl) λF _=>by rw[decide_eq_true O,List.any_eq_true.2 ⟨_,hem,hc16⟩]
  have hc16:=hc2;refine QM<|Qi<|QD<|QB<|QA (Qm I I O)<|wB 2 I ?_
  exact Qj (i.next hlt hc16) (by show l.length-(i.i+1)<l.length-i.i;omega) wV QGJ tA
 have hge:l.length<=i.i:=wk<|QGy hc2
 refine Qv ?_
 repeat first|refine QV ?_|refine QQ wy ?_
 refine QW<|QHD 7 I ?_
 exact QO ((-1:Int)) I (wN I) (rfl) λF _=>by rw[Bool.eq_false_iff.2 (i.stop hge)];rfl
theorem dN{c f:Nat}{l:List (Fr×Rat)}{p:(Fr×Rat)->Bool}(hF:Fits F w)(hg:∀F F',Gs.le F F'->G0 F->G0 F')(h0:G0 F)(hR:Qy F q n 4 (l.flatMap λe=>B6 e.1))(hn:l.length=n)(hb:n<=1000000)(hc:∀e∈l,∀w F,Fits F w->G0 F->Qb prog f (c1++[e.1.v]++c2) w F (.bool (p e))):Qb prog 95 [.slice q n c,.func (.func f) c1.toArray c2.toArray] w F (.bool (l.any p)):=by
 refine QU.intro (G:=λF=>G0 F/\Qy F q n 4 (l.flatMap λe=>B6 e.1)) func95 rfl wy rfl rfl hF (λF' hF'=>⟨hg F F' hF' h0,hR.le hF'⟩)<|QGi<|wQ rfl<|wR rfl<|QF5 rfl<|QJ rfl (λ_ _ f k=>ka (p:=p) f hg k.1 k.2 hn hb hc) λc7=>JN _ (λ_ _ f h=>h.2) λh7=>QA (QN rfl rfl rfl)<|wQ rfl<|QT ?_
 exact QHT I I (congrArg Value.bool h7.symm) w8
def V9(c:Nat):Bool:=Xz c||(decide (48<=c)&&decide (c<=57))||c==95||c==39||c==35
def Cp(s:List UInt8):Bool:=s.all (λc=>V9 c.toNat)&&decide (1<=s.length)&&decide (s.length<=32)
def AK{c:Nat}(h:128<=c):V9 c=false:=by
 unfold V9 Xz;simp;omega
def nsV(o:Option (Nat×Nat))(p:Nat):Value:=match o with
 |none=>.tuple #[.bool false]
 |some (c,_)=>.tuple #[.bool true,.int .i64 p,.int .i32 c]
theorem QBR(o:Option (Nat×Nat))(p:Nat):∃vs,nsV o p = .tuple vs/\vs[0]?=some (.bool o.isSome):=by
 cases o with
 |none=>exact⟨_,rfl,rfl⟩
 |some x=>exact⟨_,rfl,rfl⟩
def nsW(o:Option (Nat×Nat)):Nat:=match o with | none=>0 | some (_,w)=>w
def nsP(s:List UInt8)(p:Nat)(o:Option (Nat×Nat)):Prop:=match o with
 |none=>s.length<=p
 |some (c,wd)=>∃hi:p<s.length,(s[p].toNat<128/\c=s[p].toNat/\wd=1)\/(128<=s[p].toNat/\128<=c)
section
variable{P:Program}{Q:Exit->Act->World->Prop}{N:Nat}{m:Sl}{ops:Array Oper}{l:List Oper}{w0:World}{F0:Gs}{bs:List (Nat×Obj)}{G:Gs->Prop}{d:Nat}{ty:TypeId}{pos:String}{aft:Array Edge}
theorem FP{x:Operand}{p:Nat}{f:Obj->List (Nat×Obj)}(hx:ev m x=some (.pointer (some ⟨b,0,none⟩)))(ho:Own bs b (.stringIter ⟨s.toArray⟩ p) f)
  (k:∀o,nsP s p o->JS P ops Q l N ((d,nsV o p)::m) ⟨w0,F0,f (.stringIter ⟨s.toArray⟩ (p+nsW o)),G⟩) (hd:J6 N (some d)=true:=by rfl) :
  JS P ops Q (⟨some d,.next x true,ty,pos,aft,none⟩::l) N m ⟨w0,F0,bs,G⟩:=by
 rcases Nat.lt_or_ge p s.length with hi | hi
 ·obtain⟨c,wd,hdec,hcase⟩:=CI hi;exact I1 hx ho hi hdec (k (some (c,wd)) ⟨hi,hcase⟩) hd
 have h:=k none hi;refine I2 hx ho hi ?_ hd;obtain⟨pre,post,e1,e2⟩:=ho.split;rw[e2]at h;rw[e1];exact h
end
theorem C2(hF:Fits F w)(hl:s.length<=9223372036854775807):Qb prog 170 [tx s] w F (.bool (Cp s)):=by
 refine QU.intro (G:=λF=>True) func170 rfl wy rfl rfl hF w8<|QGi<|wQ rfl<|QG<|wR rfl<|FO rfl XC λb7=>QF4<|QS<|Jo (ι:=Gg s λc=>V9 c.toNat) [(0,_),(7,_)] (λi=>[]) (λi=>[(b7,.stringIter ⟨s.toArray⟩ i.i)]) (λi F=>True) (λi=>s.length-i.i) (Gg.start _ _) wT trivial QGJ w8 λi=>?_
 simp only[List.cons_append,List.nil_append];have hle:=i.le;refine QGi<|FP (s:=s) (p:=i.i) rfl .here λo ho=>?_
 obtain⟨nv,hnv,hn0⟩:=QBR o i.i;refine QA (v:=.bool o.isSome) (QX (vs:=nv) (by rw[<-hnv];rfl) hn0)<|QF4<|QG ?_
 refine QP I (λhc=>?_) λhc=>?_
 ·obtain⟨⟨c,wd⟩,rfl⟩:∃x,o=some x:=by
   cases o with
   |none=>cases hc
   |some x=>exact⟨x,rfl⟩
  obtain⟨hi,hcase⟩:=ho;refine QHC 9 I ?_;refine X8 [(0,_),(4,_),(7,_)] [(5,.bool ((Xz c||(decide (48<=c)&&decide (c<=57)))))] wU ?_ ?_
  ·refine wA 4 I ?_;refine Qe (t:=13) rfl (λhb13=>?_) λhb13=>?_
   ·refine wB 6 I ?_;refine Qe (t:=17) rfl (λhb17=>?_) λhb17=>?_
    ·refine wB 3 I<|Ja I I<|Ja I I<|wB 6 I<|Ja I I<|Ja I I<|wB 4 I ?_
     exact JB ⟨rfl,rfl,rfl,(congrArg (λb=>some (Value.bool b)) (by rw[Bool.eq_iff_iff];simp_all [Xz]<;>omega)),trivial⟩ QGJ w9
    refine wB 6 I ?_;refine Qe (t:=20) rfl (λhb20=>?_) λhb20=>?_
    ·refine wB 8 I ?_;refine Qe (t:=25) rfl (λhb25=>?_) λhb25=>?_
     ·refine wB 3 I<|Ja I I<|Ja I I<|wB 4 I ?_
      exact JB ⟨rfl,rfl,rfl,(congrArg (λb=>some (Value.bool b)) (by rw[Bool.eq_iff_iff];simp_all [Xz]<;>omega)),trivial⟩ QGJ w9
     refine wB 6 I ?_;refine Qe (t:=28) rfl (λhb28=>?_) λhb28=>?_
     ·refine wB 9 I ?_;exact JB ⟨rfl,rfl,rfl,(congrArg (λb=>some (Value.bool b)) (by rw[Bool.eq_iff_iff];simp_all [Xz]<;>omega)),trivial⟩ QGJ w9
     refine wB 7 I ?_;exact JB ⟨rfl,rfl,rfl,(congrArg (λb=>some (Value.bool b)) (by rw[Bool.eq_iff_iff];simp_all [Xz]<;>omega)),trivial⟩ QGJ w9
    refine wB 12 I ?_;refine Qe (t:=28) rfl (λhb28=>?_) λhb28=>?_
    ·refine wB 9 I ?_;exact JB ⟨rfl,rfl,rfl,(congrArg (λb=>some (Value.bool b)) (by rw[Bool.eq_iff_iff];simp_all [Xz]<;>omega)),trivial⟩ QGJ w9
    refine wB 7 I ?_;exact JB ⟨rfl,rfl,rfl,(congrArg (λb=>some (Value.bool b)) (by rw[Bool.eq_iff_iff];simp_all [Xz]<;>omega)),trivial⟩ QGJ w9
   refine wB 10 I ?_;refine Qe (t:=20) rfl (λhb20=>?_) λhb20=>?_
   ·refine wB 8 I ?_;refine Qe (t:=25) rfl (λhb25=>?_) λhb25=>?_
    ·refine wB 3 I<|Ja I I<|Ja I I<|wB 4 I ?_
     exact JB ⟨rfl,rfl,rfl,(congrArg (λb=>some (Value.bool b)) (by rw[Bool.eq_iff_iff];simp_all [Xz]<;>omega)),trivial⟩ QGJ w9
    refine wB 6 I ?_;refine Qe (t:=28) rfl (λhb28=>?_) λhb28=>?_
    ·refine wB 9 I ?_;exact JB ⟨rfl,rfl,rfl,(congrArg (λb=>some (Value.bool b)) (by rw[Bool.eq_iff_iff];simp_all [Xz]<;>omega)),trivial⟩ QGJ w9
    refine wB 7 I ?_;exact JB ⟨rfl,rfl,rfl,(congrArg (λb=>some (Value.bool b)) (by rw[Bool.eq_iff_iff];simp_all [Xz]<;>omega)),trivial⟩ QGJ w9
   refine wB 12 I ?_;refine Qe (t:=28) rfl (λhb28=>?_) λhb28=>?_
   ·refine wB 9 I ?_;exact JB ⟨rfl,rfl,rfl,(congrArg (λb=>some (Value.bool b)) (by rw[Bool.eq_iff_iff];simp_all [Xz]<;>omega)),trivial⟩ QGJ w9
   refine wB 7 I ?_;exact JB ⟨rfl,rfl,rfl,(congrArg (λb=>some (Value.bool b)) (by rw[Bool.eq_iff_iff];simp_all [Xz]<;>omega)),trivial⟩ QGJ w9
  simp only[List.cons_append,List.nil_append];refine X8 [(0,_),(7,_)] [(46,.bool ((!V9 c)))] wT ?_ ?_
  ·refine wA 2 I<|QA (Jw I)<|QF5 I ?_
   refine Qe (t:=35) rfl (λhb35=>?_) λhb35=>?_
   ·refine wB 6 I ?_;refine Qe (t:=39) rfl (λhb39=>?_) λhb39=>?_
    ·refine wB 6 I ?_;refine Qe (t:=43) rfl (λhb43=>?_) λhb43=>?_
     ·refine wB 6 I ?_;exact JB ⟨rfl,rfl,(congrArg (λb=>some (Value.bool b)) (by clear hcase;rw[Bool.eq_iff_iff];cases hL:Xz c<;>simp_all [V9]<;>omega)),trivial⟩ QGJ w9
     refine wB 4 I ?_;exact JB ⟨rfl,rfl,(congrArg (λb=>some (Value.bool b)) (by clear hcase;rw[Bool.eq_iff_iff];cases hL:Xz c<;>simp_all [V9]<;>omega)),trivial⟩ QGJ w9
    refine wB 8 I ?_;exact JB ⟨rfl,rfl,(congrArg (λb=>some (Value.bool b)) (by clear hcase;rw[Bool.eq_iff_iff];cases hL:Xz c<;>simp_all [V9]<;>omega)),trivial⟩ QGJ w9
   refine wB 12 I ?_;exact JB ⟨rfl,rfl,(congrArg (λb=>some (Value.bool b)) (by clear hcase;rw[Bool.eq_iff_iff];cases hL:Xz c<;>simp_all [V9]<;>omega)),trivial⟩ QGJ w9
  simp only[List.cons_append,List.nil_append];refine QP I (λhc=>?_) λhc=>?_
  ·have hbad:V9 (el s i.i).toNat=false:=by
    rw[J4 hi];rcases hcase with ⟨_,h2,_⟩ | ⟨h2,_⟩
    ·rw[<-h2];simpa using hc
    exact AK h2
   refine wA 6 I ?_
   repeat first|refine Qw ?_|refine Qp ?_
   exact QHT I I (congrArg Value.bool (by unfold Cp;rw[i.hit hi hbad];rfl)) w8
  have hcg0:V9 c=true:=by simpa using hc
  have hasc:s[i.i].toNat<128/\c=s[i.i].toNat/\wd=1:=by
   rcases hcase with h | ⟨_,h2⟩
   ·exact h
   rw[AK h2]at hcg0;cases hcg0
  have hwd:wd=1:=hasc.2.2;have hcg:V9 (el s i.i).toNat=true:=by rw[J4 hi,<-hasc.2.1];exact hcg0
  refine QM<|Qi ?_
  exact Qj (i.next hi hcg) (by show s.length-(i.i+1)<s.length-i.i;omega) wT ((by rw[show nsW (some (c,wd))=1 from hwd];exact List.Sublist.refl _)) λF h=>⟨h.1,trivial⟩
 obtain rfl:o=none:=by
  cases o with
  |none=>rfl
  |some x=>cases hc
 have hge:s.length<=i.i:=ho;refine Qv ?_
 repeat first|refine QV ?_|refine QQ wy ?_
 refine QW<|QD<|wR I<|QA (Js I XC)<|wB 2 I ?_
 refine Qe (t:=50) rfl (λhb50=>?_) λhb50=>?_
 ·refine wB 3 I<|QA (Js I XC)<|QHB 7 I ?_
  exact QHT I I (congrArg Value.bool (by unfold Cp;rw[i.stop hge];rw[Bool.eq_iff_iff];simp at *;simp_all<;>omega)) w8
 refine QHB 8 I ?_;exact QHT I I (congrArg Value.bool (by unfold Cp;rw[i.stop hge];rw[Bool.eq_iff_iff];simp at *;simp_all<;>omega)) w8
theorem gK(hF:Fits F w)(hl:s.length<=9223372036854775807):Qb prog 87 [tx s] w F (.bool (Cp s)):=by
 refine QU.intro (G:=λF=>True) func87 rfl wy rfl rfl hF w8<|QGi<|wQ rfl<|QG<|QGi<|wQ rfl<|QS<|J2 (ι:=Gg s λc=>V9 c.toNat) [(0,_)] (λi=>[(3,.int .i64 ((i.i:Nat):Int))]) (λi=>s.length-i.i) (Gg.start _ _) wS wS λi=>?_
 simp only[List.cons_append,List.nil_append];have hle:=i.le;refine wA 5 I<|QA (Js I XC)<|QHB 3 I ?_
 refine QP I (λhc=>?_) λhc=>?_
 ·have hi:i.i<s.length:=wk<|QGx hc
  refine QHC 8 I<|QA (Y5 (i:=i.i) rfl rfl XC hi) ?_
  obtain⟨c,hce⟩:∃c,c=s[i.i].toNat:=⟨_,rfl⟩;rw[<-hce];refine QHB 3 I ?_;refine X8 [(0,_),(3,_)] [(48,.bool ((!V9 c)))] wT ?_ ?_
  ·refine wA 4 I ?_;refine Qe (t:=16) rfl (λhb16=>?_) λhb16=>?_
   ·refine wB 6 I ?_;refine Qe (t:=20) rfl (λhb20=>?_) λhb20=>?_
    ·refine wB 3 I<|Ja I I<|Ja I I<|wB 6 I<|Ja I I<|Ja I I<|wB 12 I ?_
     refine wB 2 I<|QA (Jw I)<|QE ?_
     exact JB ⟨rfl,rfl,(congrArg (λb=>some (Value.bool b)) (by clear hce;rw[Bool.eq_iff_iff];simp_all [V9,Xz]<;>omega)),trivial⟩ QGJ w9
    refine wB 6 I ?_;refine Qe (t:=23) rfl (λhb23=>?_) λhb23=>?_
    ·refine wB 8 I ?_;refine Qe (t:=28) rfl (λhb28=>?_) λhb28=>?_
     ·refine wB 3 I<|Ja I I<|Ja I I<|wB 14 I<|QA (Jw I)<|QE ?_
      exact JB ⟨rfl,rfl,(congrArg (λb=>some (Value.bool b)) (by clear hce;rw[Bool.eq_iff_iff];simp_all [V9,Xz]<;>omega)),trivial⟩ QGJ w9
     refine wB 6 I ?_;refine Qe (t:=31) rfl (λhb31=>?_) λhb31=>?_
     ·refine wB 8 I ?_;refine Qe (t:=36) rfl (λhb36=>?_) λhb36=>?_
      ·refine wB 11 I<|QA (Jw I)<|QE ?_
       exact JB ⟨rfl,rfl,(congrArg (λb=>some (Value.bool b)) (by clear hce;rw[Bool.eq_iff_iff];simp_all [V9,Xz]<;>omega)),trivial⟩ QGJ w9
      refine wB 6 I ?_;refine Qe (t:=40) rfl (λhb40=>?_) λhb40=>?_
      ·refine wB 7 I<|QA (Jw I)<|QE ?_
       exact JB ⟨rfl,rfl,(congrArg (λb=>some (Value.bool b)) (by clear hce;rw[Bool.eq_iff_iff];simp_all [V9,Xz]<;>omega)),trivial⟩ QGJ w9
      refine wB 6 I ?_;refine Qe (t:=44) rfl (λhb44=>?_) λhb44=>?_
      ·refine wB 3 I<|QA (Jw I)<|QE ?_
       exact JB ⟨rfl,rfl,(congrArg (λb=>some (Value.bool b)) (by clear hce;rw[Bool.eq_iff_iff];simp_all [V9,Xz]<;>omega)),trivial⟩ QGJ w9
      refine wB 5 I<|QA (Jw I)<|QE ?_
      exact JB ⟨rfl,rfl,(congrArg (λb=>some (Value.bool b)) (by clear hce;rw[Bool.eq_iff_iff];simp_all [V9,Xz]<;>omega)),trivial⟩ QGJ w9
     refine wB 12 I ?_;refine Qe (t:=40) rfl (λhb40=>?_) λhb40=>?_
     ·refine wB 7 I<|QA (Jw I)<|QE ?_
      exact JB ⟨rfl,rfl,(congrArg (λb=>some (Value.bool b)) (by clear hce;rw[Bool.eq_iff_iff];simp_all [V9,Xz]<;>omega)),trivial⟩ QGJ w9
     refine wB 6 I ?_;refine Qe (t:=44) rfl (λhb44=>?_) λhb44=>?_
     ·refine wB 3 I<|QA (Jw I)<|QE ?_
      exact JB ⟨rfl,rfl,(congrArg (λb=>some (Value.bool b)) (by clear hce;rw[Bool.eq_iff_iff];simp_all [V9,Xz]<;>omega)),trivial⟩ QGJ w9
     refine wB 5 I<|QA (Jw I)<|QE ?_
     exact JB ⟨rfl,rfl,(congrArg (λb=>some (Value.bool b)) (by clear hce;rw[Bool.eq_iff_iff];simp_all [V9,Xz]<;>omega)),trivial⟩ QGJ w9
    refine wB 12 I ?_;refine Qe (t:=31) rfl (λhb31=>?_) λhb31=>?_
    ·refine wB 8 I ?_;refine Qe (t:=36) rfl (λhb36=>?_) λhb36=>?_
     ·refine wB 11 I<|QA (Jw I)<|QE ?_
      exact JB ⟨rfl,rfl,(congrArg (λb=>some (Value.bool b)) (by clear hce;rw[Bool.eq_iff_iff];simp_all [V9,Xz]<;>omega)),trivial⟩ QGJ w9
     refine wB 6 I ?_;refine Qe (t:=40) rfl (λhb40=>?_) λhb40=>?_
     ·refine wB 7 I<|QA (Jw I)<|QE ?_
      exact JB ⟨rfl,rfl,(congrArg (λb=>some (Value.bool b)) (by clear hce;rw[Bool.eq_iff_iff];simp_all [V9,Xz]<;>omega)),trivial⟩ QGJ w9
     refine wB 6 I ?_;refine Qe (t:=44) rfl (λhb44=>?_) λhb44=>?_
     ·refine wB 3 I<|QA (Jw I)<|QE ?_
      exact JB ⟨rfl,rfl,(congrArg (λb=>some (Value.bool b)) (by clear hce;rw[Bool.eq_iff_iff];simp_all [V9,Xz]<;>omega)),trivial⟩ QGJ w9
     refine wB 5 I<|QA (Jw I)<|QE ?_
     exact JB ⟨rfl,rfl,(congrArg (λb=>some (Value.bool b)) (by clear hce;rw[Bool.eq_iff_iff];simp_all [V9,Xz]<;>omega)),trivial⟩ QGJ w9
    refine wB 12 I ?_;refine Qe (t:=40) rfl (λhb40=>?_) λhb40=>?_
    ·refine wB 7 I<|QA (Jw I)<|QE ?_
     exact JB ⟨rfl,rfl,(congrArg (λb=>some (Value.bool b)) (by clear hce;rw[Bool.eq_iff_iff];simp_all [V9,Xz]<;>omega)),trivial⟩ QGJ w9
    refine wB 6 I ?_;refine Qe (t:=44) rfl (λhb44=>?_) λhb44=>?_
    ·refine wB 3 I<|QA (Jw I)<|QE ?_
     exact JB ⟨rfl,rfl,(congrArg (λb=>some (Value.bool b)) (by clear hce;rw[Bool.eq_iff_iff];simp_all [V9,Xz]<;>omega)),trivial⟩ QGJ w9
    refine wB 5 I<|QA (Jw I)<|QE ?_
    exact JB ⟨rfl,rfl,(congrArg (λb=>some (Value.bool b)) (by clear hce;rw[Bool.eq_iff_iff];simp_all [V9,Xz]<;>omega)),trivial⟩ QGJ w9
   refine wB 10 I ?_;refine Qe (t:=23) rfl (λhb23=>?_) λhb23=>?_
   ·refine wB 8 I ?_;refine Qe (t:=28) rfl (λhb28=>?_) λhb28=>?_
    ·refine wB 3 I<|Ja I I<|Ja I I<|wB 14 I<|QA (Jw I)<|QE ?_
     exact JB ⟨rfl,rfl,(congrArg (λb=>some (Value.bool b)) (by clear hce;rw[Bool.eq_iff_iff];simp_all [V9,Xz]<;>omega)),trivial⟩ QGJ w9
    refine wB 6 I ?_;refine Qe (t:=31) rfl (λhb31=>?_) λhb31=>?_
    ·refine wB 8 I ?_;refine Qe (t:=36) rfl (λhb36=>?_) λhb36=>?_
     ·refine wB 11 I<|QA (Jw I)<|QE ?_
      exact JB ⟨rfl,rfl,(congrArg (λb=>some (Value.bool b)) (by clear hce;rw[Bool.eq_iff_iff];simp_all [V9,Xz]<;>omega)),trivial⟩ QGJ w9
     refine wB 6 I ?_;refine Qe (t:=40) rfl (λhb40=>?_) λhb40=>?_
     ·refine wB 7 I<|QA (Jw I)<|QE ?_
      exact JB ⟨rfl,rfl,(congrArg (λb=>some (Value.bool b)) (by clear hce;rw[Bool.eq_iff_iff];simp_all [V9,Xz]<;>omega)),trivial⟩ QGJ w9
     refine wB 6 I ?_;refine Qe (t:=44) rfl (λhb44=>?_) λhb44=>?_
     ·refine wB 3 I<|QA (Jw I)<|QE ?_
      exact JB ⟨rfl,rfl,(congrArg (λb=>some (Value.bool b)) (by clear hce;rw[Bool.eq_iff_iff];simp_all [V9,Xz]<;>omega)),trivial⟩ QGJ w9
     refine wB 5 I<|QA (Jw I)<|QE ?_
     exact JB ⟨rfl,rfl,(congrArg (λb=>some (Value.bool b)) (by clear hce;rw[Bool.eq_iff_iff];simp_all [V9,Xz]<;>omega)),trivial⟩ QGJ w9
    refine wB 12 I ?_;refine Qe (t:=40) rfl (λhb40=>?_) λhb40=>?_
    ·refine wB 7 I<|QA (Jw I)<|QE ?_
     exact JB ⟨rfl,rfl,(congrArg (λb=>some (Value.bool b)) (by clear hce;rw[Bool.eq_iff_iff];simp_all [V9,Xz]<;>omega)),trivial⟩ QGJ w9
    refine wB 6 I ?_;refine Qe (t:=44) rfl (λhb44=>?_) λhb44=>?_
    ·refine wB 3 I<|QA (Jw I)<|QE ?_
     exact JB ⟨rfl,rfl,(congrArg (λb=>some (Value.bool b)) (by clear hce;rw[Bool.eq_iff_iff];simp_all [V9,Xz]<;>omega)),trivial⟩ QGJ w9
    refine wB 5 I<|QA (Jw I)<|QE ?_
    exact JB ⟨rfl,rfl,(congrArg (λb=>some (Value.bool b)) (by clear hce;rw[Bool.eq_iff_iff];simp_all [V9,Xz]<;>omega)),trivial⟩ QGJ w9
   refine wB 12 I ?_;refine Qe (t:=31) rfl (λhb31=>?_) λhb31=>?_
   ·refine wB 8 I ?_;refine Qe (t:=36) rfl (λhb36=>?_) λhb36=>?_
    ·refine wB 11 I<|QA (Jw I)<|QE ?_
     exact JB ⟨rfl,rfl,(congrArg (λb=>some (Value.bool b)) (by clear hce;rw[Bool.eq_iff_iff];simp_all [V9,Xz]<;>omega)),trivial⟩ QGJ w9
    refine wB 6 I ?_;refine Qe (t:=40) rfl (λhb40=>?_) λhb40=>?_
    ·refine wB 7 I<|QA (Jw I)<|QE ?_
     exact JB ⟨rfl,rfl,(congrArg (λb=>some (Value.bool b)) (by clear hce;rw[Bool.eq_iff_iff];simp_all [V9,Xz]<;>omega)),trivial⟩ QGJ w9
    refine wB 6 I ?_;refine Qe (t:=44) rfl (λhb44=>?_) λhb44=>?_
    ·refine wB 3 I<|QA (Jw I)<|QE ?_
     exact JB ⟨rfl,rfl,(congrArg (λb=>some (Value.bool b)) (by clear hce;rw[Bool.eq_iff_iff];simp_all [V9,Xz]<;>omega)),trivial⟩ QGJ w9
    refine wB 5 I<|QA (Jw I)<|QE ?_
    exact JB ⟨rfl,rfl,(congrArg (λb=>some (Value.bool b)) (by clear hce;rw[Bool.eq_iff_iff];simp_all [V9,Xz]<;>omega)),trivial⟩ QGJ w9
   refine wB 12 I ?_;refine Qe (t:=40) rfl (λhb40=>?_) λhb40=>?_
   ·refine wB 7 I<|QA (Jw I)<|QE ?_
    exact JB ⟨rfl,rfl,(congrArg (λb=>some (Value.bool b)) (by clear hce;rw[Bool.eq_iff_iff];simp_all [V9,Xz]<;>omega)),trivial⟩ QGJ w9
   refine wB 6 I ?_;refine Qe (t:=44) rfl (λhb44=>?_) λhb44=>?_
   ·refine wB 3 I<|QA (Jw I)<|QE ?_
    exact JB ⟨rfl,rfl,(congrArg (λb=>some (Value.bool b)) (by clear hce;rw[Bool.eq_iff_iff];simp_all [V9,Xz]<;>omega)),trivial⟩ QGJ w9
   refine wB 5 I<|QA (Jw I)<|QE ?_
   exact JB ⟨rfl,rfl,(congrArg (λb=>some (Value.bool b)) (by clear hce;rw[Bool.eq_iff_iff];simp_all [V9,Xz]<;>omega)),trivial⟩ QGJ w9
  simp only[List.cons_append,List.nil_append];refine QP I (λhc=>?_) λhc=>?_
  ·have hbad:V9 (el s i.i).toNat=false:=by rw[J4 hi,<-hce];simpa using hc
   refine wA 6 I ?_
   repeat first|refine Qw ?_|refine Qp ?_
   exact QHT I I (congrArg Value.bool (by unfold Cp;rw[i.hit hi hbad];rfl)) w8
  have hcg:=hc;refine QM<|Qi<|QHD 3 I<|QA (Qm I I O)<|wB 2 I ?_
  exact Qj (i.next hi (by rw[J4 hi,<-hce];simpa using hcg)) (by show s.length-(i.i+1)<s.length-i.i;omega) wT QGJ w9
 have hge:s.length<=i.i:=wk<|QGy hc
 refine Qv ?_
 repeat first|refine QV ?_|refine QQ wy ?_
 refine QW<|QD<|wR I<|QA (Js I XC)<|wB 2 I ?_
 refine Qe (t:=52) rfl (λhb52=>?_) λhb52=>?_
 ·refine wB 3 I<|QA (Js I XC)<|QHB 7 I ?_
  exact QHT I I (congrArg Value.bool (by unfold Cp;rw[i.stop hge];rw[Bool.eq_iff_iff];simp at *;simp_all<;>omega)) w8
 refine QHB 8 I ?_;exact QHT I I (congrArg Value.bool (by unfold Cp;rw[i.stop hge];rw[Bool.eq_iff_iff];simp at *;simp_all<;>omega)) w8
structure Zh where
 nm:Sr
 nl:List (List UInt8)
 rt:Sr
 rl:List K8
 st:Sr
 sl:List (List UInt8×List UInt8)
variable{y:Zh}
@[reducible] def Zh.v (y:Zh):Value:=.agg #[.slice y.nm.q y.nm.n y.nm.cap,.slice y.rt.q y.rt.n y.rt.cap,.slice y.st.q y.st.n y.st.cap]
structure Yl(F:Gs)(y:Zh):Prop where
 nm:Qy F y.nm.q y.nm.n 1 (y.nl.map tx)
 rt:Qy F y.rt.q y.rt.n 1 (y.rl.map λe=>e.1.v)
 pl:KL F y.rl
 st:Qy F y.st.q y.st.n 2 (y.sl.flatMap Ny)
 AL:y.nl.length=y.nm.n
 N4:y.rl.length=y.rt.n
 RG:y.sl.length=y.st.n
def Yl.le{F':Gs}(h:Yl F y)(k:Gs.le F F'):Yl F' y:=⟨h.nm.le k,h.rt.le k,h.pl.le k,h.st.le k,h.AL,h.N4,h.RG⟩
structure Nb(y:Zh):Prop where
 nn:y.nm.n<=1000000
 nc:y.nm.n<=y.nm.cap
 nt:∀s∈y.nl,s.length<=9223372036854775807
 rn:y.rt.n<=1000000
 tm:∀e∈y.rl,BP e
 sn:y.st.n<=1000000
 st:∀s∈y.sl,s.1.length<=1000000/\s.2.length<=1000000
def BG(nl:List (List UInt8))(i:Nat):Int:=Qn [if(!Cp (el nl i))=true then 8 else 0,if decide (el nl i∈nl.take i)=true then 9 else 0]
def Gb(nl:List (List UInt8)):Int:=Qn ((List.range nl.length).map (BG nl))
def BB(nl:List (List UInt8))(rl:List Pt)(sl:List (List UInt8×List UInt8)):Int :=
 if nl.length=0 then 12 else if nl.length>24 then 5 else if rl.length≠nl.length\/sl.length≠nl.length then 2 else
  Qn [Gb nl,Qn (rl.map λp=>XB p nl.length),Qn (sl.map λs=>ZJ s.1 s.2)]
def Zh.e(y:Zh):Int:=BB y.nl (y.rl.map λe=>J0 e.2) y.sl
def WO:Qn (0::l)=Qn l:=by simp[Qn]
def Kh{x:Int}(h:x≠0):Qn (x::l)=x:=by simp[Qn,h]
theorem Kg{b:Bool}{e:Int}(hF:Fits F w):Qb prog 72 [.bool b,.int .i64 e] w F (.int .i64 (if b=true then e else 0)):=by
 refine QU.intro (G:=λF=>True) func72 rfl wy rfl rfl hF w8<|QGi<|wQ rfl<|QG<|wR rfl<|QE<|QD ?_
 refine QP I (λhc=>?_) λhc=>?_
 ·refine wA 7 I ?_;exact QHT I I (congrArg (Value.int .i64) (by rw[if_pos hc])) w8
 refine QHC 8 I ?_;exact QHT I I (congrArg (Value.int .i64) (by rw[if_neg (by rw[hc];decide)])) w8
theorem Ws{c:Nat}(hF:Fits F w)(hR:Qy F q n 1 (l.map Q7))(hn:n<=1000000000):Qb prog 69 [.slice q n c] w F (.int .i64 (Qn l)):=by
 have hln:l.length=n:=by have:=hR.1;simpa using this
 have hmap:Qn l=Qn (l.map id):=by rw[List.map_id]
 refine QU.intro (G:=λF=>Qy F q n 1 (l.map Q7)) func69 rfl wy rfl rfl hF (λF' hF'=>hR.le hF')<|QGi<|wQ rfl<|QG<|wR rfl<|QA (Qf rfl Y4)<|QF5 rfl<|QF4<|QS<|J2 (ι:=Zc l id) [(5,_),(6,_)] (λi=>[(7,.int .i64 ((i.i:Nat):Int))]) (λi=>l.length-i.i) (Zc.start _ _) wT wS λi=>?_
 simp only[List.cons_append,List.nil_append];have hi:=i.le;refine wA 6 I ?_;refine QP I (λhc=>?_) λhc=>?_
 ·have hlt:i.i<l.length:=wk<|QGx hc
  refine QHC 6 I<|QA (Q2 (n:=n) i.i w9 rfl rfl Y4 WE O)<|QA (Qz (n:=n) ((i.i)*1) w9 O I WE (ZD (f:=Q7) (l:=l) O))<|QHB 9 I ?_
  refine QP I (λhc=>?_) λhc=>?_
  ·have h12:id (el l i.i)≠0:=bne_iff_ne.1 hc;refine wA 7 I ?_
   repeat first|refine Qw ?_|refine Qp ?_
   exact QHT I I (congrArg (Value.int .i64) (hmap ▸ i.hit hlt h12)) w8
  have h12:id (el l i.i)=0:=bne_eq_false_iff_eq.1 hc;refine QM<|Qi<|QD<|QB<|QA (Qm I I O)<|wB 2 I ?_
  exact Qj (i.next hlt h12) (by show l.length-(i.i+1)<l.length-i.i;omega) wU QGJ w9
 have hge:l.length<=i.i:=wk<|QGy hc
 refine Qv ?_
 repeat first|refine QV ?_|refine QQ wy ?_
 refine QW<|QHD 7 I ?_
 exact QHT I I (congrArg (Value.int .i64) (hmap ▸ i.stop hge)) w8
theorem Aq{c f:Nat}{ls:List K8}{fE:K8->Int}(hF:Fits F w)(hg:∀F F',Gs.le F F'->G0 F->G0 F')(h0:G0 F)(hR:Qy F q n 1 (ls.map λe=>e.1.v))(hn:ls.length=n)(hb:n<=1000000)(hc:∀e∈ls,∀w F,Fits F w->G0 F->Qb prog f (c1++[e.1.v]++c2) w F (.int .i64 (fE e))):
  Qb prog 211 [.slice q n c,.func (.func f) c1.toArray c2.toArray] w F (.int .i64 (Qn (ls.map fE))):=by
 refine QU.intro (G:=λF=>G0 F/\Qy F q n 1 (ls.map λe=>e.1.v)) func211 rfl wy rfl rfl hF (λF' hF'=>⟨hg F F' hF' h0,hR.le hF'⟩)<|QGi<|wQ rfl<|QG<|wR rfl<|QA (Qf rfl W1)<|QF5 rfl<|QF4<|QS<|J2 (ι:=Zc ls fE) [(1,_),(8,_),(9,_)] (λi=>[(10,.int .i64 ((i.i:Nat):Int))]) (λi=>ls.length-i.i) (Zc.start _ _) wU wS λi=>?_
 simp only[List.cons_append,List.nil_append];have hi:=i.le;refine wA 6 I ?_;refine QP I (λhc2=>?_) λhc2=>?_
 ·have hlt:i.i<ls.length:=wk<|QGx hc2
  have hem:=JK hlt;refine QHC 6 I<|QA (Q2 (n:=n) i.i tB rfl rfl W1 Gh O)<|QA (Qz (n:=n) ((i.i)*1) tB O I Gh (ZD (f:=λe:K8=>e.1.v) (l:=ls) O))<|QHB 7 I<|KG (c1:=c1) (c2:=c2) rfl rfl (λw F f k=>hc _ hem w F f k.1) λ_=>QHB 9 I ?_
  refine QP I (λhc2=>?_) λhc2=>?_
  ·have h18:=bne_iff_ne.1 hc2;refine wA 7 I ?_
   repeat first|refine Qw ?_|refine Qp ?_
   exact QHT I I (congrArg (Value.int .i64) (i.hit hlt h18)) w8
  have h18:=bne_eq_false_iff_eq.1 hc2;refine QM<|Qi<|QD<|QB<|QA (Qm I I O)<|wB 2 I ?_
  exact Qj (i.next hlt h18) (by show ls.length-(i.i+1)<ls.length-i.i;omega) wV QGJ tA
 have hge:ls.length<=i.i:=wk<|QGy hc2
 refine Qv ?_
 repeat first|refine QV ?_|refine QQ wy ?_
 refine QW<|QHD 7 I ?_
 exact QHT I I (congrArg (Value.int .i64) (i.stop hge)) w8
theorem Ap{c f:Nat}{ls:List (List UInt8×List UInt8)}{fE:List UInt8×List UInt8->Int}(hF:Fits F w)(hg:∀F F',Gs.le F F'->G0 F->G0 F')(h0:G0 F)(hR:Qy F q n 2 (ls.flatMap Ny))(hn:ls.length=n)(hb:n<=1000000)(hc:∀e∈ls,∀w F,Fits F w->G0 F->Qb prog f (c1++[.agg #[tx e.1,tx e.2]]++c2) w F (.int .i64 (fE e))):
  Qb prog 213 [.slice q n c,.func (.func f) c1.toArray c2.toArray] w F (.int .i64 (Qn (ls.map fE))):=by
 refine QU.intro (G:=λF=>G0 F/\Qy F q n 2 (ls.flatMap Ny)) func213 rfl wy rfl rfl hF (λF' hF'=>⟨hg F F' hF' h0,hR.le hF'⟩)<|QGi<|wQ rfl<|QG<|wR rfl<|QA (Qf rfl YP)<|QF5 rfl<|QF4<|QS<|J2 (ι:=Zc ls fE) [(1,_),(8,_),(9,_)] (λi=>[(10,.int .i64 ((i.i:Nat):Int))]) (λi=>ls.length-i.i) (Zc.start _ _) wU wS λi=>?_
 simp only[List.cons_append,List.nil_append];have hi:=i.le;refine wA 6 I ?_;refine QP I (λhc2=>?_) λhc2=>?_
 ·have hlt:i.i<ls.length:=wk<|QGx hc2
  have hem:=JK hlt;refine QHC 6 I<|QA (Q2 (n:=n) i.i tB rfl rfl YP Xx O)<|QA (XZ (n:=n) (vs:=[tx (el ls i.i).1,tx (el ls i.i).2]) ((i.i)*2) tB O I Xx I λj v hv=>Jg (f:=Ny) (l:=ls) Gi O hv)<|Qg EA λb6=>QZ (vs:=[_,_]) I I I Xx I .here .h2 wT<|QHB 5 I<|QA (wH I Xx .here)<|KG (c1:=c1) (c2:=c2) rfl rfl (λw F f k=>hc _ hem w F f k.1) λ_=>QHB 8 I ?_
  refine QD ?_;refine QP I (λhc2=>?_) λhc2=>?_
  ·have h18:=bne_iff_ne.1 hc2;refine wA 7 I ?_
   repeat first|refine Qw ?_|refine Qp ?_
   exact QHT I I (congrArg (Value.int .i64) (i.hit hlt h18)) w8
  have h18:=bne_eq_false_iff_eq.1 hc2;refine QM<|Qi<|QD<|QB<|QA (Qm I I O)<|wB 2 I ?_
  exact Qj (i.next hlt h18) (by show ls.length-(i.i+1)<ls.length-i.i;omega) wV (tD) tA
 have hge:ls.length<=i.i:=wk<|QGy hc2
 refine Qv ?_
 repeat first|refine QV ?_|refine QQ wy ?_
 refine QW<|QHD 7 I ?_
 exact QHT I I (congrArg (Value.int .i64) (i.stop hge)) w8
structure NoI(l:List (List UInt8))(v:List UInt8) where
 i:Nat
 le:i<=l.length
 h:∀j,j<i->¬el l j=v
def NoI.stop{l:List (List UInt8)}{v:List UInt8}(s:NoI l v)(h:l.length<=s.i):¬v∈l:=λhm=>by
 obtain⟨j,hj,e⟩:=List.getElem_of_mem hm;exact s.h j O (by rw[J4 hj];exact e)
theorem xC{c:Nat}{l:List (List UInt8)}{v:List UInt8}(hF:Fits F w)(hR:Qy F q n 1 (l.map tx))(hn:l.length=n)(hb:n<=1000000000):QU prog 261 [.slice q n c,tx v] w F (λ(k:Int)=>.int .i64 k) (λk _=>decide (k>=0)=decide (v∈l)):=by
 refine QU.intro (G:=λF=>Qy F q n 1 (l.map tx)) func261 rfl wy rfl rfl hF (λF' hF'=>hR.le hF')<|QGi<|wQ rfl<|QG<|wR rfl<|QA (Qf rfl Yf)<|QF5 rfl<|QF4<|QS<|J2 (ι:=NoI l v) [(0,_),(1,_),(7,_)] (λi=>[(8,.int .i64 ((i.i:Nat):Int))]) (λi=>l.length-i.i) (⟨0,Nat.zero_le _,λj h=>absurd h (Nat.not_lt_zero _)⟩) wU wS λi=>?_
 simp only[List.cons_append,List.nil_append];have hi:=i.le;refine wA 6 I ?_;refine QP I (λhc=>?_) λhc=>?_
 ·have hlt:i.i<l.length:=wk<|QGx hc
  refine QHC 15 I<|QA (Q2 (n:=n) i.i w9 rfl rfl Yf Hx O)<|QA (Qz (n:=n) ((i.i)*1) w9 O I Hx (ZD (f:=tx) (l:=l) O))<|QA (Y6 I I)<|QE<|QD ?_
  refine QP I (λhc=>?_) λhc=>?_
  ·have h16:v=el l i.i:=by simpa using hc
   have hm:v∈l:=by rw[h16];exact JK hlt
   refine wA 7 I ?_
   repeat first|refine Qw ?_|refine Qp ?_
   exact QO (((i.i:Nat):Int)) I (wN I) (rfl) λF hR=>by simp[hm]
  have h16:¬v=el l i.i:=by simpa using hc
  refine QM<|Qi<|QD<|QB<|QA (Qm I I O)<|wB 2 I ?_
  exact Qj (⟨i.i+1,hlt,λj hj=>by rcases Nat.lt_succ_iff_lt_or_eq.1 hj with h | rfl;exact i.h j h;exact λe=>h16 e.symm⟩) (by show l.length-(i.i+1)<l.length-i.i;omega) wV QGJ w9
 have hge:l.length<=i.i:=wk<|QGy hc
 refine Qv ?_
 repeat first|refine QV ?_|refine QQ wy ?_
 refine QW<|QHD 7 I ?_
 exact QO ((-1:Int)) I (wN I) (rfl) λF hR=>by simp[i.stop hge]
theorem RO{c:Nat}{l:List (List UInt8)}{v:List UInt8}(hF:Fits F w)(hR:Qy F q n 1 (l.map tx))(hn:l.length=n)(hb:n<=1000000000):Qb prog 171 [.slice q n c,tx v] w F (.bool (decide (v∈l))):=by
 refine QU.intro (G:=λF=>Qy F q n 1 (l.map tx)) func171 rfl wy rfl rfl hF (λF' hF'=>hR.le hF')<|QGi<|wQ rfl<|wR rfl<|QF5 rfl<|QJ rfl (λ_ _ f k=>xC f k hn hb) λc7=>JN _ (λ_ _ f h=>h.2) λh7=>QA (QN rfl rfl rfl)<|wQ rfl<|QT ?_
 exact QHT I I (congrArg Value.bool h7.symm) w8
theorem Tf{v:Int}{e:K8}(hF:Fits F w)(hGl:JG F)(hB:F b=some (#[.int .i64 v],3))(hR:Qy F e.1.q e.1.n 2 (e.2.flatMap KI))(hA:Zz F e.2)(ht:BP e)(hv:0<=v/\v<=24):Qb prog 212 [e.1.v,.pointer (some ⟨b,0,none⟩)] w F (.int .i64 (XB (J0 e.2) v)):=by
 obtain⟨⟨q,n,c⟩,ps⟩:=e;dsimp only[Sr.v]at *
 refine QU.intro (G:=λF=>JG F/\F b=some (#[.int .i64 v],3)/\Qy F q n 2 (ps.flatMap KI)/\Zz F ps) func212 rfl wy rfl rfl hF (λF' hF'=>⟨hGl.le hF',hF' _ _ hB,hR.le hF',hA.le hF'⟩)<|QGi<|wQ rfl<|wR rfl<|QA (Qz (n:=1) ((0)*1) (λF h9=>(Qy.of (n:=1) (sz:=1) h9.2.1 rfl)) O rfl Qu rfl)<|QJ rfl (λ_ _ f k=>Ho f k.1 k.2.2.1 k.2.2.2 ht.1 ht.2.1 ht.2.2) λ_=>wQ rfl<|QT ?_
 exact QHT I I (congrArg (Value.int .i64) (by unfold Mm;rw[if_pos ((K5 v).2 hv)])) w8
def BZ(n r s:Nat):Int:=Qn [if decide ((n:Int)=0)=true then 12 else 0,if decide ((n:Int)>24)=true then 5 else 0,if((r:Int) != n||(s:Int) != n)=true then 2 else 0]
theorem Qy.uz{l:List (List UInt8)}(h:Qy F q n 1 (l.map tx))(hl:l.length=n)(hk:k<=l.length):Qy F q k 1 ((l.take k).map tx):=by
 refine⟨w6,λh0=>?_⟩;obtain⟨b,off,arr,T,e1,e2,e3⟩:=h.2 O;refine⟨b,off,arr,T,e1,e2,λj u hu=>e3 j u ?_⟩;rw[List.map_take]at hu;have hj:j<k:=by
  rcases Nat.lt_or_ge j k with g | g
  ·exact g
  rw[List.getElem?_eq_none w6]at hu;cases hu
 rw[List.getElem?_take_of_lt hj]at hu;exact hu
def qX(h:BZ nl.length rl.length sl.length≠0):BB nl rl sl=BZ nl.length rl.length sl.length:=by
 unfold BB;by_cases h1:nl.length=0
 ·rw[if_pos h1];simp[BZ,h1,Qn]
 rw[if_neg h1];by_cases h2:nl.length>24
 ·rw[if_pos h2];simp[BZ,h1,Qn];omega
 rw[if_neg h2];by_cases h3:rl.length≠nl.length\/sl.length≠nl.length
 ·rw[if_pos h3];have e:((rl.length:Int) != nl.length||(sl.length:Int) != nl.length)=true:=by simp only[Bool.or_eq_true,bne_iff_ne];omega
  unfold BZ;rw[e];simp[h1,Qn];omega
 exfalso;apply h;have e:((rl.length:Int) != nl.length||(sl.length:Int) != nl.length)=false:=by rw[Bool.eq_false_iff];simp only[ne_eq,Bool.or_eq_true,bne_iff_ne];omega
 unfold BZ;rw[e];simp[h1,Qn];omega
def S8{r s:Nat}(h:BZ n r s=0):n≠0/\n<=24/\r=n/\s=n:=by
 unfold BZ at h;by_cases h1:n=0
 ·simp[h1,Qn]at h
 by_cases h2:n>24
 ·have:((n:Int)>24):=O;simp[h1,this,Qn]at h
 by_cases h3:r≠n\/s≠n
 ·have e:((r:Int) != n||(s:Int) != n)=true:=by simp only[Bool.or_eq_true,bne_iff_ne];omega
  have h4:¬((n:Int)>24):=O;rw[e]at h;simp[h1,h4,Qn]at h
 omega
def Fw(h:BZ nl.length rl.length sl.length=0):BB nl rl sl=Qn [Gb nl,Qn (rl.map λp=>XB p nl.length),Qn (sl.map λs=>ZJ s.1 s.2)]:=by
 obtain⟨h1,h2,h3,h4⟩:=S8 h;unfold BB;rw[if_neg h1,if_neg O,if_neg O]
theorem Pc(hF:Fits F w)(hGl:JG F)(hy:Yl F y)(ht:Nb y):Qb prog 102 [y.v] w F (.int .i64 y.e):=by
 obtain⟨⟨qn,nn,cn⟩,nl,⟨qr,nr,cr⟩,rl,⟨qs,ns,cs⟩,sl⟩:=y;have hnl:=hy.AL;have hrl:=hy.N4;have hsl:=hy.RG;have hnn:=ht.nn;have hrn:=ht.rn;have hsn:=ht.sn;dsimp only at *
 dsimp only[Zh.v];refine QU.intro (G:=λF=>JG F/\Yl F ⟨⟨qn,nn,cn⟩,nl,⟨qr,nr,cr⟩,rl,⟨qs,ns,cs⟩,sl⟩) func102 rfl wy rfl rfl hF (λF' hF'=>⟨hGl.le hF',hy.le hF'⟩)<|QGi<|JE rfl (vs:=[_,_,_]) rfl λb1=>wQ rfl<|QGi<|QA (QH rfl WB YR)<|QA (Qh rfl YR .here .h1)<|QA (Qf rfl Yf)<|Qg BR λb3=>QZ (vs:=[_]) rfl rfl rfl Qu rfl .here .h1 wS<|QF4<|QG ?_
 refine X8 [(1,_),(3,_)] [(4,.int .i64 (BZ nn nr ns))] wT ?_ ?_
 ·refine JL QGJ mixed wm<|QL (Qh I Qu .here .h1)<|QL (QN I I I)<|Qc I (λ_ _ f k=>Kg f ) λ_=>QL (Qh I Qu .here .h1)<|QL (QN I I I)<|Qc I (λ_ _ f k=>Kg f ) λ_=>QL (QH I Pl H9)<|QL (Qh I H9 .u1 (.skip .h1))<|QL (Qf I W1)<|QL (Qh I Qu .here .h1)<|QL (QN I I I)<|QL (QC I) ?_
  refine Kz (t:=22) rfl (λhb22=>?_) λhb22=>?_
  ·refine Q8 I I I<|Q8 I I I<|Q8 I I I<|Q8 I I I<|Q8 I I I<|QL (Qa I I I)<|Qc I (λ_ _ f k=>Kg f ) λ_=>?_
   refine Jd I (JU Y4) WE RQ I I (λb30=>?_) (λw h=>h.imp tC λF h=>h.1.1.1);refine Qc I (λ_ _ f k=>Ws f (Qy.of (cs:=List.map Q7 [_,_,_]) k.2 I) wu) (λ_=>QL (QF I)<|Q3 ?_);exact JB ⟨rfl,rfl,(congrArg (λb=>some (Value.int .i64 b)) (by unfold BZ;rw[hb22];rfl)),trivial⟩ QGJ λ_ h=>h.1.1.1.1.1
  refine JM I I<|QL (QH I Bp WG)<|JM I I<|QL (Qh I WG .u1 (.skip (.skip .h1)))<|JM I I<|QL (Qf I YP)<|JM I I<|QL (Qh I Qu .here .h1)<|JM I I<|QL (QN I I I)<|QL (QY I I I)<|Qc I (λ_ _ f k=>Kg f ) λ_=>?_
  refine Jd I (JU Y4) WE RQ I I (λb30=>?_) (λw h=>h.imp tC λF h=>h.1.1.1);refine Qc I (λ_ _ f k=>Ws f (Qy.of (cs:=List.map Q7 [_,_,_]) k.2 I) wu) (λ_=>QL (QF I)<|Q3 ?_);exact JB ⟨rfl,rfl,(congrArg (λb=>some (Value.int .i64 b)) (by unfold BZ;rw[hb22];rfl)),trivial⟩ QGJ λ_ h=>h.1.1.1.1.1
 simp only[List.cons_append,List.nil_append];refine wA 6 I ?_;refine QP I (λhc=>?_) λhc=>?_
 ·have h33:=bne_iff_ne.1 hc;refine wA 7 I ?_;exact QHT I I (congrArg (Value.int .i64) (by show BB nl (rl.map λe=>J0 e.2) sl=BZ nn nr ns;rw[qX (by rw[List.length_map,hnl,hrl,hsl];exact h33),List.length_map,hnl,hrl,hsl])) w8
 have h33:=bne_eq_false_iff_eq.1 hc;have h0:BZ nl.length (rl.map λe=>J0 e.2).length sl.length=0:=by rw[List.length_map,hnl,hrl,hsl];exact h33
 obtain⟨hq1,hq2,hq3,hq4⟩:=S8 h33;refine QHC 5 I<|QA (QH I WB YR)<|QA (Qh I YR .u1 .h1)<|QA (Qf I Yf)<|QHB 4 I<|J2 (ι:=Zc (List.range nl.length) (BG nl)) [(1,_),(3,_),(36,_),(37,_)] (λi=>[(38,.int .i64 ((i.i:Nat):Int))]) (λi=>nl.length-i.i) (Zc.start _ _) wV wS λi=>?_
 simp only[List.cons_append,List.nil_append];have hi:=i.le;rw[List.length_range]at hi;refine wA 6 I ?_;refine QP I (λhc=>?_) λhc=>?_
 ·have hlt:i.i<nl.length:=wk<|QGx hc
  refine QHC 7 I<|QA (Q2 (n:=nn) i.i (λF h9=>h9.2.nm) rfl rfl Yf Hx O)<|QA (Qz (n:=nn) ((i.i)*1) (λF h9=>h9.2.nm) O I Hx (ZD (f:=tx) (l:=nl) O))<|QHB 5 I<|JL QGJ mixed wm<|QL (QC I)<|Qc I (λ_ _ f k=>C2 f (ht.nt _ (JK hlt))) λ_=>QL (Jw I)<|Qc I (λ_ _ f k=>Kg f ) λ_=>QL (QH I WB YR)<|QL (Qh I YR .u1 .h1)<|QL (QC I)<|QL (Ra i.i I I I Yf Hx (by have:=ht.nc;dsimp only at this;omega))<|QL (QC I)<|Qc I (λ_ _ f k=>RO f (Qy.uz (l:=nl) k.1.1.2.nm hnl hi) (by rw[List.length_take];omega) O) λ_=>?_
  refine Qc I (λ_ _ f k=>Kg f ) (λ_=>?_);refine Jd I (JU Y4) WE RQ I I (λb54=>?_) (λw h=>h.imp tC λF h=>h.1.1.1.1);refine Qc I (λ_ _ f k=>Ws f (Qy.of (cs:=List.map Q7 [_,_]) k.2 I) wu) (λ_=>QL (QF I)<|Q3<|QHD 7 I ?_);refine QP I (λhc=>?_) λhc=>?_
  ·have h57:=bne_iff_ne.1 hc;refine wA 7 I ?_
   repeat first|refine Qw ?_|refine Qp ?_
   exact QHT I I (congrArg (Value.int .i64) (by show BB nl (rl.map λe=>J0 e.2) sl=_;rw[Fw h0];have h9:=i.hit (by rw[List.length_range];exact hlt) (by rw[VN hlt];exact h57);rw[VN hlt]at h9;rw[show Gb nl=BG nl i.i from h9,Kh (show BG nl i.i≠0 from h57)];rfl)) w8
  have h57:=bne_eq_false_iff_eq.1 hc;refine QM<|Qi<|QD<|QB<|QA (Qm I I O)<|wB 2 I ?_
  exact Qj (i.next (by rw[List.length_range];exact hlt) (by rw[VN hlt];exact h57)) (by show nl.length-(i.i+1)<nl.length-i.i;omega) wW QGJ λF h=>h.1.1.1.1.1.1
 have hge:nl.length<=i.i:=wk<|QGy hc
 refine Qv ?_
 repeat first|refine QV ?_|refine QQ wy ?_
 refine QW<|QD<|QG<|BQ (b:=b3) .here<|JL QGJ mixed wm<|QL (QH I Pl H9)<|QL (Qh I H9 .here (.skip .h1))<|QL (Bb I)<|Qc I (λw F g k=>Aq (f:=212) (fE:=λe=>XB (J0 e.2) (nn:Int)) (c1:=[]) (c2:=[.pointer (some ⟨b3,0,none⟩)]) (G0:=λF=>JG F/\KL F rl/\F b3=some (#[.int .i64 (nn:Int)],3)) g (λF F' hle h=>⟨h.1.le hle,h.2.1.le hle,hle _ _ h.2.2⟩) ⟨k.1.1,k.1.2.pl,k.2⟩ k.1.2.rt hrl O λe he w F g h=>Tf g h.1 h.2.2 (h.2.1 e he).1 (h.2.1 e he).2 (ht.tm e he) O) λ_=>QL (QH I Bp WG)<|QL (Qh I WG .here (.skip (.skip .h1)))<|Qc I (λw F g k=>Ap (f:=120) (fE:=λs=>ZJ s.1 s.2) (c1:=[]) (c2:=[]) (G0:=λF=>JG F) g (λF F' hle h=>h.le hle) k.1.1.1 k.1.1.2.st hsl O λe he w F g h=>MG g h (ht.st e he)) λ_=>?_
 refine Jd I (JU Y4) WE RQ I I (λb67=>?_) (λw h=>h.imp tC λF h=>h.1.1);refine Qc I (λ_ _ f k=>Ws f (Qy.of (cs:=List.map Q7 [_,_]) k.2 I) wu) (λ_=>QL (QF I)<|Q3<|QD<|QT ?_);exact QHT I I (congrArg (Value.int .i64) (by show BB nl (rl.map λe=>J0 e.2) sl=_;rw[Fw h0];have h9:=i.stop (by rw[List.length_range];exact hge);rw[show Gb nl=0 from h9,WO,List.map_map,hnl];rfl)) w8
def R4(u:Nat){k:Nat}(hk:0<k)(h:(Lib.decDigits u).length<=k):sz (u:Int)<=4*k:=by
 rw[Lib.decDigits_length]at h;rw[XF,Int.natAbs_natCast];have h1:¬10^k<=u:=λe=>wk ((PM (u:=u) hk).2 e);have h2:10^k<=16^k:=Nat.pow_le_pow_left wu _;have h3:(16:Nat)^k=2^(4*k):=by rw[Nat.pow_mul]
 rw[<-h3];exact Nat.lt_of_lt_of_le (Nat.lt_of_not_le h1) h2
def LC(z:Int){k:Nat}(hk:0<k)(h:(XV z).length<=k):sz z<=4*k:=by
 have e:sz z=sz (z.natAbs:Int):=by unfold sz;simp
 rw[e];refine R4 _ hk ?_;rcases Int.lt_or_le z 0 with g | g
 ·rw[ZT g,List.length_cons]at h;omega
 rwa [Jh g]at h
def yJ(x:Rat){k:Nat}(hk:0<k)(h:(JO x).length<=k):Jn x<=4*k:=by
 unfold Jn;unfold JO at h;split at h
 ·rename_i hd;rw[hd];exact Nat.max_le.2 ⟨LC _ hk h,Nat.le_trans (show sz ((1:Nat):Int)<=1 by decide) O⟩
 rw[List.length_append,List.length_cons]at h;exact Nat.max_le.2 ⟨LC _ hk O,R4 _ hk O⟩
def vz(h:Jy s=0){k:Nat}(hk:0<k)(hl:s.length<=k):Jn (Yn s)<=4*k :=
 yJ _ hk (by rw[<-(Zb h).1];exact hl)
theorem LP{a:List UInt8}{d:Int}(hF:Fits F w)(hd:0<=d/\d<=1000):Qb prog 33 [tx a,.int .i64 d] w F (.bool (Gd a d)):=by
 have hn:=SI a;refine QU.intro (G:=λF=>True) func33 rfl wy rfl rfl hF w8<|QGi<|wQ rfl<|wR rfl<|QA (Js rfl WH)<|QF5 rfl<|QA (Vm rfl rfl O)<|QA (Qm rfl rfl O)<|QA (QN rfl rfl rfl)<|QF5 rfl ?_
 refine Qe (t:=11) rfl (λhb11=>?_) λhb11=>?_
 ·have hl:a.length<=1000000:=by have h1:=QGx hb11;omega
  refine wB 3 I<|QJ I (λ_ _ f k=>PA f (hl)) λ_=>wB 4 I ?_
  refine Qe (t:=16) rfl (λhb16=>?_) λhb16=>?_
  ·refine wB 3 I<|QJ I (λ_ _ f k=>q7 f O) λ_=>QK I I<|QJ I (λ_ _ f k=>jE f ) λ_=>QK I I<|QA (Js I WH)<|wB 6 I ?_
   refine Qe (t:=24) rfl (λhb24=>?_) λhb24=>?_
   ·refine wB 3 I<|QJ I (λ_ _ f k=>jC f O) λ_=>QK I I<|QA (Js I WH)<|QHB 9 I ?_
    exact QHT I I ((congrArg Value.bool (by have h1:=QGx hb11;simp[Gd,h1];simp at hb16 hb24;simp[hb16,hb24]))) w8
   refine QHB 10 I ?_;exact QHT I I ((congrArg Value.bool (by have h1:=QGx hb11;simp[Gd,h1];simp at hb16 hb24;simp[hb16];intro g;omega))) w8
  refine QHB 18 I ?_;exact QHT I I ((congrArg Value.bool (by have h1:=QGx hb11;simp at hb16;simp[Gd,h1,hb16]))) w8
 refine QHB 23 I ?_;exact QHT I I ((congrArg Value.bool (by simp[Gd,hb11]))) w8
theorem LO{n c:Nat}{m d:Int}{l:List (List UInt8×List UInt8)}(hF:Fits F w)(hR:Qy F q n 2 (l.flatMap Ny))(hl:l.length=n)(hd:0<=d/\d<=1000)(hn:n<=1000000):Qb prog 114 [.slice q n c,.int .i64 m,.int .i64 d] w F (.bool (decide ((n:Int)<=m)&&l.all (Ax d))):=by
 have hln:=hl;refine QU.intro (G:=λF=>Qy F q n 2 (l.flatMap Ny)) func114 rfl wy rfl rfl hF (λF' hF'=>hR.le hF')<|QGi<|wQ rfl<|QG<|wR rfl<|QA (Qf rfl YP)<|QF5 rfl<|QA (QN rfl rfl rfl)<|QE<|QD ?_
 refine QP I (λhc=>?_) λhc=>?_
 ·have hg:=QGx hc;refine wA 6 I ?_;exact QHT I I (congrArg Value.bool (by have h1:decide ((n:Int)<=m)=false:=decide_eq_false O;rw[h1];rfl)) w8
 have hg:=QGy hc;refine QHC 9 I<|J2 (ι:=Gg l (Ax d)) [(0,_),(2,_)] (λi=>[(7,.int .i64 ((i.i:Nat):Int))]) (λi=>l.length-i.i) (Gg.start _ _) wT wS λi=>?_
 simp only[List.cons_append,List.nil_append];refine wA 5 I<|QA (Qf I YP)<|QHB 3 I ?_
 refine QP I (λhc=>?_) λhc=>?_
 ·have hi:i.i<l.length:=wk<|QGx hc
  refine QHC 4 I ?_;refine X8 [(0,_),(2,_),(7,_)] [(49,.bool (!Ax d (el l i.i)))] wU ?_ ?_
  ·refine JL QGJ mixed wm<|QL (QC I)<|QL (QC I)<|QL (Q2 (n:=n) i.i w9 rfl rfl YP Xx O)<|QL (QH I H4 Jk)<|QL (Qz (n:=n) ((i.i)*2+0) w9 O I Jk (Jg (f:=Ny) (l:=l) Gi O I))<|QL (QC I)<|Qc I (λ_ _ f k=>LP f hd) λ_=>QL (Jw I)<|QL (QC I) ?_
   refine Kz (t:=26) rfl (λhb26=>?_) λhb26=>?_
   ·refine Q8 I I I<|Q8 I I I<|Q8 I I I<|Q8 I I I<|Q8 I I I<|Q8 I I I<|Q8 I I I<|Q8 I I I<|QL (Qa I I I)<|QL (QC I)<|Q8 I I I<|Q8 I I I<|Q8 I I I<|Q8 I I I<|Q8 I I I<|Q8 I I I<|Q8 I I I<|Q8 I I I<|Q8 I I I<|Q8 I I I<|Q8 I I I<|Q8 I I I<|QL (Qa I I I)<|Q3 ?_
    exact JB ⟨rfl,rfl,rfl,(congrArg (λb=>some (Value.bool b)) (by simp at hb26;simp[Ax,hb26])),trivial⟩ QGJ tA
   refine JM I I<|QL (QC I)<|JM I I<|QL (QC I)<|JM I I<|QL (Q2 (n:=n) i.i w9 rfl rfl YP Xx O)<|JM I I<|QL (QH I Bo Jk)<|JM I I<|QL (Qz (n:=n) ((i.i)*2+1) w9 O I Jk (Jg (f:=Ny) (l:=l) Gi O I))<|JM I I<|QL (QC I)<|JM I I<|Qc I (λ_ _ f k=>LP f hd) λ_=>JM I I<|QL (Jw I)<|QL (QY I I I)<|QL (QC I) ?_
   refine Kz (t:=36) rfl (λhb36=>?_) λhb36=>?_
   ·refine Q8 I I I<|Q8 I I I<|Q8 I I I<|Q8 I I I<|Q8 I I I<|Q8 I I I<|Q8 I I I<|Q8 I I I<|Q8 I I I<|Q8 I I I<|Q8 I I I<|Q8 I I I<|QL (Qa I I I)<|Q3 ?_
    exact JB ⟨rfl,rfl,rfl,(congrArg (λb=>some (Value.bool b)) (by simp at hb26 hb36;simp[Ax,hb26,hb36])),trivial⟩ QGJ λ_ h=>h.1.1
   refine JM I I<|QL (QC I)<|JM I I<|QL (QC I)<|JM I I<|QL (Q2 (n:=n) i.i w9 rfl rfl YP Xx O)<|JM I I<|QL (QH I H4 Jk)<|JM I I<|QL (Qz (n:=n) ((i.i)*2+0) w9 O I Jk (Jg (f:=Ny) (l:=l) Gi O I))<|JM I I<|QL (QC I)<|JM I I<|QL (QC I)<|JM I I<|QL (Q2 (n:=n) i.i w9 rfl rfl YP Xx O)<|JM I I<|QL (QH I Bo Jk)<|JM I I<|QL (Qz (n:=n) ((i.i)*2+1) w9 O I Jk (Jg (f:=Ny) (l:=l) Gi O I))<|JM I I<|Qc I (λ_ _ f k=>Cz f (Lu (by simpa using hb26)) (Lu (by simpa using hb36))) λ_=>JM I I<|QL (QN I I I)<|QL (QY I I I) ?_
   refine Q3 ?_;exact JB ⟨rfl,rfl,rfl,(congrArg (λb=>some (Value.bool b)) (by simp at hb26 hb36;simp[Ax,hb26,hb36])),trivial⟩ QGJ λ_ h=>h.1.1.1
  simp only[List.cons_append,List.nil_append];refine QP I (λhc=>?_) λhc=>?_
  ·refine wA 6 I ?_
   repeat first|refine Qw ?_|refine Qp ?_
   exact QHT I I (congrArg Value.bool (by rw[i.hit hi (by simpa using hc),Bool.and_false])) w8
  refine QM<|Qi<|QHD 3 I<|QA (Qm I I O)<|wB 2 I ?_
  exact Qj (i.next hi (by simpa using hc)) (by show l.length-(i.i+1)<l.length-i.i;omega) wU QGJ w9
 have hi:l.length<=i.i:=wk<|QGy hc
 refine Qv ?_
 repeat first|refine QV ?_|refine QQ wy ?_
 refine QW<|QHD 7 I ?_
 exact QHT I I (congrArg Value.bool (by rw[i.stop hi];have h1:decide ((n:Int)<=m)=true:=decide_eq_true O;rw[h1];rfl)) w8
def Mn(r:Rat):Yn (JO r)=r:=by
 unfold Yn JO;by_cases h:r.den=1
 ·rw[if_pos h,EZ (Vf _)];dsimp only;rw[if_neg wu,ZS];have:=Rat.mkRat_self r;rw[h,Rat.mkRat_one]at this;exact this
 rw[if_neg h,G8 (Vf _)];dsimp only;rw[if_pos rfl,ZS,Jp];exact Rat.mkRat_self r
def Is{l:List UInt8}(h:JF l≠n):¬Lib.decDigits n=l:=λe=>h (by rw[<-e,Jp])
def Ea{r:Rat}(h:XQ r=false):Jy (JO r)=0:=by
 unfold XQ E2 at h;rw[Bool.or_eq_false_iff]at h;have h1:=QGy h.1;have h2:=QGy h.2;have ln:¬600<(Lib.decDigits r.num.natAbs).length:=λe=>h1 ((TY _).1 e);have ld:¬600<(Lib.decDigits r.den).length:=λe=>h2 (by rw[Int.natAbs_natCast];exact(TY _).1 e);have hneg:(Lib.hasPrefix (XV r.num) [45]&&Lib.decDigits r.num.natAbs==[48])=false:=by
  by_cases g:r.num<0
  ·have:¬Lib.decDigits r.num.natAbs=[48]:=Is (by show 0≠_;omega);rw[beq_false_of_ne this,Bool.and_false]
  rw[Jh O,Yh (JR _)];rfl
 unfold Jy JO;by_cases hd:r.den=1
 ·rw[if_pos hd,EZ (Vf _)];dsimp only;unfold Wd FJ;rw[Vd,BW,hneg,decide_eq_false ln];simp
 rw[if_neg hd,G8 (Vf _)];dsimp only;unfold Wd FJ;have h0:¬Lib.decDigits r.den=[48]:=Is (by show 0≠_;have:=r.den_nz;omega);have h9:¬Lib.decDigits r.den=[49]:=Is (by show 1≠_;omega);have hg:Nat.gcd r.num.natAbs r.den=1:=r.reduced;rw[Vd,BW,BW,hneg,decide_eq_false ln,decide_eq_false ld,Jp,Jp,hg,beq_false_of_ne h0,beq_false_of_ne h9];simp
def W2{r:Rat}(h:Jn r<=k)(hk:k<=1800):XQ r=false:=by
 unfold XQ E2;have a:∀z:Int,sz z<=k->decide (lim<=z.natAbs)=false:=λz hz=>by
  have h1:=(XF z 1800).1 O;have h2:=Lj;refine decide_eq_false λe=>?_;exact absurd (Nat.lt_trans (Nat.lt_of_le_of_lt e h1) h2) (Nat.lt_irrefl _)
 rw[a _ (Nat.le_trans (Jc r) h),a _ (Nat.le_trans (JZ r) h)];rfl
section
variable{w:World}{F:Gs}
def xo{a b:Rat}(ha:XQ a=false)(hb:XQ b=false)(h:a<=b):ZJ (JO a) (JO b)=0:=by
 unfold ZJ;rw[Ea ha,Ea hb,if_pos (show Qn [0,0]=0 from rfl),Mn,Mn,if_neg];have:=(Ly a b).2 h;omega
end
def Zh.rs(y:Zh):List (List Tm):=y.rl.map λe=>JW (J0 e.2)
def Zh.vs(y:Zh):List (Rat×Rat):=y.sl.map ZR
structure QFW(y:Zh):Prop where
 n0:1<=y.nm.n
 n1:y.nm.n<=24
 rn:y.rt.n=y.nm.n
 sn:y.st.n=y.nm.n
 nm:Gb y.nl=0
 pl:∀e∈y.rl,Y1 (J0 e.2) (y.nm.n:Int)
 st:∀s∈y.sl,ZJ s.1 s.2=0
def KK(h:Qn l=0):∀x∈l,x=0:=by
 induction l with
 |nil=>intro x hx;cases hx
 |cons a l ih =>
  intro x hx;unfold Qn at h;by_cases g:a=0
  ·rw[if_pos g]at h;rcases List.mem_cons.1 hx with rfl | hx
   ·exact g
   exact ih h x hx
  rw[if_neg g]at h;exact absurd h g
def Tj{a b c:Int}(h:Qn [a,b,c]=0):a=0/\b=0/\c=0:=⟨KK h a (.head _),KK h b (.tail _ (.head _)),KK h c (.tail _ (.tail _ (.head _)))⟩
def Wt(h:∀x∈l,x=0):Qn l=0:=by
 induction l with
 |nil=>rfl
 |cons a l ih=>unfold Qn;rw[if_pos (h a wz)];exact ih λx hx=>h x (by simp[hx])
theorem Yl.ok(h:Yl F y)(he:y.e=0):QFW y:=by
 have h1:=h.AL;have h2:=h.N4;have h3:=h.RG;unfold Zh.e at he;by_cases h0:BZ y.nl.length (y.rl.map λe=>J0 e.2).length y.sl.length=0
 ·rw[Fw h0]at he;obtain⟨q1,q2,q3,q4⟩:=S8 h0;rw[List.length_map]at q3;obtain⟨z1,z2,z3⟩:=Tj he;refine⟨O,O,O,O,z1,λe hm=>?_,λs hm=>?_⟩
  ·have h5:=KK z2 _ (List.mem_map_of_mem (List.mem_map_of_mem hm));rw[h1]at h5;exact Wh h5
  exact KK z3 _ (List.mem_map_of_mem hm)
 rw[qX h0]at he;exact absurd he h0
structure RdJ(y:Zh) where
 i:Nat
 v:Value
 ob:List (Nat×Obj)
 ps:List VO
 le:i<=y.rl.length
 hr:Q6 87 1 v i (ps.map λe=>e.1.v) ob
 hq:Ck ps=y.rs.take i
def RdJ.len(s:RdJ y):s.ps.length=s.i:=by
 have h:=congrArg List.length s.hq;have h2:=s.le;unfold Ck Zh.rs at h;rw[List.length_map,List.length_take,List.length_map]at h;omega
def yg(h:i<y.rl.length):y.rs.take (i+1)=y.rs.take i++[JW (J0 (el y.rl i).2)]:=by
 unfold Zh.rs;rw[Xg (by rw[List.length_map];exact h)];congr 2;rw[J4 (by rw[List.length_map];exact h),List.getElem_map,J4 h]
def MR.snoc{ps:List VO}{c:VO}{p:List Tm}(h:MR F ps)(k:Jl F c.1 c.2 p):MR F (ps++[c]):=λe he=>by
 rcases List.mem_append.1 he with he | he
 ·exact h e he
 rw[List.mem_singleton.1 he,show JQ c.2=p from k.2.2.1];exact k
structure D8(F:Gs)(c:Sr×List VO)(rs:List (List Tm)):Prop where
 row:Qy F c.1.q c.1.n 1 (c.2.map λe=>e.1.v)
 pls:MR F c.2
 val:Ck c.2=rs
 len:c.2.length=c.1.n
def D8.le{F':Gs}{rs:List (List Tm)}(h:D8 F c rs)(k:Gs.le F F'):D8 F' c rs:=⟨h.row.le k,λe he=>(h.pls e he).le k,h.val,h.len⟩
def D8.N4{rs:List (List Tm)}(h:D8 F c rs):rs.length=c.1.n:=by rw[<-h.val,<-h.len];simp[Ck]
def D8.at{rs:List (List Tm)}(h:D8 F c rs){i:Nat}(hi:i<c.1.n):Jl F (el c.2 i).1 (el c.2 i).2 (JQ (el c.2 i).2)/\JQ (el c.2 i).2=el rs i:=by
 have h1:=h.len;refine⟨h.pls _ (JK O),?_⟩;rw[<-h.val,J4 (show i<c.2.length by omega),J4 (by simp[Ck];omega)];simp[Ck]
def UG(y:Zh)(c:Sr×List VO):List Value:=[.slice y.nm.q y.nm.n y.nm.cap,.slice y.rt.q y.rt.n y.rt.cap,.slice y.st.q y.st.n y.st.cap,.int .i64 ((y.nm.n:Int)+1),c.1.v]
theorem Ls(hF:Fits F w)(hGl:JG F)(hy:Yl F y)(ht:Nb y)(he:y.e=0):QU prog 68 [y.v] w F (λ(c:Sr×List VO)=>.tuple #[.agg (UG y c).toArray,.int .i64 0]) (λc F=>D8 F c y.rs):=by
 have ho:=hy.ok he;have hrl:=hy.N4;have hsl:=hy.RG;have hn1:=ho.n1;have hrn:=ho.rn;have hsn:=ho.sn;refine QU.intro (G:=λF=>JG F/\Yl F y) func68 rfl wy rfl rfl hF (λF' hF'=>⟨hGl.le hF',hy.le hF'⟩)<|QGi<|JE rfl (vs:=[_,_,_]) rfl λb1=>Qg Nj λb2=>wQ rfl<|QG<|QGi<|QA (wI I Y3 .u1)<|QJ rfl (λ_ _ f k=>Pc (y:=y) f k.1 k.2 ht) λ_=>?_
 rw[he];refine QHB 9 I ?_;refine QP I (λhc=>?_) λhc=>?_
 ·exact absurd hc (wz)
 refine QHC 4 I<|QA (wI I Y3 .u1)<|QA (QH rfl WB YR)<|QA (Qh rfl YR .u1 .h1)<|QA (Qf rfl Yf)<|QA (Qm rfl rfl O)<|QA (XL rfl pv Nj (.cons (vs:=[_,_,_]) rfl rfl rfl .h3 (.cons (vs:=[_]) rfl rfl rfl (.skip (.skip (.skip .h1))) (.cons (vs:=[_]) rfl rfl rfl (.skip (.skip (.skip (.skip .h1)))) .nil))))<|Qg Nj λb5=>QZ (vs:=[_,_,_,_,_]) rfl rfl rfl Ki rfl .here .h5 wW<|QHB 5 I<|QA (QH rfl Pl H9)<|QA (Qh rfl H9 .u2 (.skip .h1))<|QA (Qf rfl W1)<|QF5 rfl<|QF4<|QS<|Jo (ι:=RdJ y) [(2,_),(5,_),(21,_),(22,_)] (λi=>[(23,.int .i64 ((i.i:Nat):Int))]) (λi=>(b5,.cells #[.slice y.nm.q y.nm.n y.nm.cap,.slice y.rt.q y.rt.n y.rt.cap,.slice y.st.q y.st.n y.st.cap,.int .i64 ((y.nm.n:Int)+1),i.v] 109 (0,0))::(b2,.cells [.slice none 0 0,.slice none 0 0,.slice none 0 0,.int .i64 0,.slice none 0 0].toArray 109 (0,0))::i.ob) (λi F=>MR F i.ps) (λi=>y.rl.length-i.i) (⟨0,.slice none 0 0,[],[],Nat.zero_le _,.nil,rfl⟩) wV wS (tF) (λ_ _ _ h=>by cases h) λi=>?_
 simp only[List.cons_append,List.nil_append];have hi:=i.le;refine wA 6 I ?_;refine QP I (λhc=>?_) λhc=>?_
 ·have hlt:i.i<y.rl.length:=wk<|QGx hc
  have hem:=JK hlt;refine QHC 6 I<|QA (Q2 (n:=y.rt.n) i.i (λF h9=>h9.1.1.2.rt) rfl rfl W1 Gh O)<|QA (Qz (n:=y.rt.n) ((i.i)*1) (λF h9=>h9.1.1.2.rt) O I Gh (ZD (f:=λe:K8=>e.1.v) (l:=y.rl) O))<|wQ I<|XN 7 tF mixed wm wm ?_
  simp only[List.take_succ_cons,List.take_zero,List.drop_succ_cons,List.drop_zero];refine QL (QH I M4 Gv)<|QL (Qh I Gv .here (.skip (.skip (.skip (.skip .h1)))))<|QL (QC I)<|Qc I (λ_ _ f k=>Wf f k.1.1.1 (k.1.1.2.pl _ hem).1 (k.1.1.2.pl _ hem).2 (ht.tm _ hem) (ho.pl _ hem) O) λc30=>V8 _ (λ_ _ f h=>h.2.2.2.1) λe30=>?_
  refine Jd I (JU KS) Vg qH I I (λb31=>?_) (λw h=>h.imp tF tA);refine Na (List.perm_append_comm (l₁:=[_,_])) ?_;refine B4 (n:=i.i) (k:=1) (sz:=1) (news:=[c30.1.v]) I I KS Vg qH I dQ i.hr (Src.row (off:=0) tB (λj q hq=>by rw[Nat.zero_add];rw[List.getElem?_toArray];exact hq) rfl) O O (λv hv=>by rw[List.mem_singleton.1 hv];rfl) QGJ (λ_ h=>h.1.1) (λv32 ob32 hr32=>?_);refine Na (List.perm_append_comm (l₂:=[_,_]))<|QL (QH I M4 Gv)<|KH<|QZ (vs:=[v32]) I I hr32.one.2 Gv I .here (.skip (.skip (.skip (.skip .h1)))) ⟨hr32.one.1,trivial⟩<|QE<|Qi<|QD<|QB<|QA (Qm I I O)<|wB 2 I ?_
  exact Qj (⟨i.i+1,v32,ob32,i.ps++[c30],hlt,by rw[List.map_append];exact hr32,by unfold Ck;rw[List.map_append,yg hlt,<-e30];exact congrArg (·++_) i.hq⟩) (by show y.rl.length-(i.i+1)<y.rl.length-i.i;omega) wW QGJ λF h9=>⟨⟨⟨h9.1.1.1.1.1,h9.1.1.1.1.2⟩,trivial⟩,h9.1.1.2.snoc h9.1.2⟩
 have hge:i.i=y.rl.length:=by have:=QGy hc;have:=i.le;omega
 refine Qv ?_
 repeat first|refine QV ?_|refine QQ wy ?_
 refine QW<|QHD 3 I ?_
 have hxl:=i.len;obtain⟨⟨rq,rn,rc⟩,hv2,hrn,hrc,hfix⟩:=Q6.fix (w0:=w) (F0:=F) (bs1:=[_,_]) (G:=_) i.hr;dsimp only at hrn hrc hfix;subst hrn;refine H6 hfix ?_;rw[hv2];dsimp only[Sr.v];refine QA (QR (vs:=[_,_,_,_,_]) I Ki .here .h5 rfl)<|QZ (vs:=[_,_,_,_,_]) I I I Ki I .u1 .h5 wW<|wQ I<|QT ?_
 exact J9 (((⟨rq,i.i,rc⟩,i.ps):Sr×List VO)) I (.Jv (c:=[_,_,_,_,_]) I Ki .u1 (wN I)) (rfl) λF h9=>⟨h9.2,h9.1.2,by have e:=i.hq;rw[hge]at e;rw[e];exact List.take_of_length_le (by unfold Zh.rs;rw[List.length_map];exact Nat.le_refl _),hxl⟩
def Wz(rs:List (List Tm))(p:List Tm):Nat->List Tm
 |0=>JX (X5 0 p)
 |k+1=>JX (Wz rs p k++JX (JC (JX (X5 (k+1) p)) (el rs k)))
structure UD(rs:List (List Tm))(p:List Tm)(N:Nat):Prop where
 n:N=rs.length+1
 n1:N<=1000
 lp:p.length<=100000
 pw:∀t∈p,PW t.2/\t.2.length=N
 sp:∀t∈p,Jn t.1<=20000000
 zO:∀v,v<=rs.length->Z3 (X5 v p)<=40000000
 mul:∀k,k<rs.length->z8 (JX (X5 (k+1) p)) (el rs k) N
 add:∀k,k<rs.length->yA (Wz rs p k) (JX (JC (JX (X5 (k+1) p)) (el rs k)))
structure QFT(n:Nat) where
 i:Nat
 c:VO
 le:i<=n
def Jl.eqT{s:Sr}{ts:List Xa}{p:List Tm}(h:Jl F s ts p):JQ ts=p:=h.2.2.1
def Jl.self{s:Sr}{ts:List Xa}{p:List Tm}(h:Jl F s ts p):Jl F s ts (JQ ts):=by rw[h.eqT];exact h
theorem xF{rs:List (List Tm)}{p:VO}(hF:Fits F w)(hGl:JG F)(hr:D8 F c rs)(hP:Jl F p.1 p.2 (JQ p.2))(ho:UD rs (JQ p.2) N):QU prog 56 [c.1.v,p.1.v] w F (λ(d:VO)=>d.1.v) (λd F=>Jl F d.1 d.2 (Wz rs (JQ p.2) rs.length)):=by
 have hrl:=hr.N4;have hrn:=hr.len;have hn:=ho.n;have hn1:=ho.n1;have hpd:∀v,v<=rs.length->∀t∈p.2,PW t.t.2/\v<t.t.2.length:=λv hv t ht=>⟨(ho.pw _ (List.mem_map_of_mem ht)).1,by rw[(ho.pw _ (List.mem_map_of_mem ht)).2];omega⟩;have hlp:p.2.length<=100000:=by have:=ho.lp;rwa [ZC]at this
 refine QU.intro (G:=λF=>JG F/\D8 F c rs/\Jl F p.1 p.2 (JQ p.2)) func56 rfl wy rfl rfl hF (λF' hF'=>⟨hGl.le hF',hr.le hF',hP.le hF'⟩)<|QGi<|wQ rfl<|wR rfl<|QJ rfl (λ_ _ f k=>jY (v:=0) f k.1 k.2.2 (hpd 0 O) hlp (λt ht=>ho.sp _ (List.mem_map_of_mem ht)) (ho.zO 0 O)) λc9=>wQ rfl<|QG<|wR rfl<|QA (Qf rfl KS)<|QF5 rfl<|QF4<|QS<|Jo (ι:=QFT rs.length) [(1,_),(10,_),(11,_)] (λi=>[(5,.slice i.c.1.q i.c.1.n i.c.1.cap),(12,.int .i64 ((i.i:Nat):Int))]) (λi=>[]) (λi F=>Jl F i.c.1 i.c.2 (Wz rs (JQ p.2) i.i)) (λi=>rs.length-i.i) (⟨0,c9,Nat.zero_le _⟩) wU wT QGJ tB λi=>?_
 simp only[List.cons_append,List.nil_append];have hi:=i.le;refine wA 6 I ?_;refine QP I (λhc2=>?_) λhc2=>?_
 ·have hlt:i.i<rs.length:=wk<|QGx hc2
  refine Xe _ (λw F hF ⟨⟨⟨hGl,hr,hP⟩,h9⟩,hA⟩=>And.intro (hr.at (show i.i<c.1.n by omega)).2 hA.eqT) (λhpp=>?_);obtain⟨hea,eA⟩:=hpp;refine QHC 7 I<|QA (Q2 (n:=c.1.n) i.i (λF h9=>h9.1.1.2.1.row) rfl rfl KS Vg O)<|QA (Qz (n:=c.1.n) ((i.i)*1) (λF h9=>h9.1.1.2.1.row) O I Vg (ZD (f:=λe:VO=>e.1.v) (l:=c.2) O))<|QHB 8 I<|QA (Qm I I O) ?_
  rw[show(((i.i:Nat):Int)+1)=((i.i+1:Nat):Int)from rfl];refine QJ I (λ_ _ f k=>jY (v:=i.i+1) f k.1.1.1 k.1.1.2.2 (hpd _ O) hlp (λt ht=>ho.sp _ (List.mem_map_of_mem ht)) (ho.zO _ O)) (λc21=>JN _ (λ_ _ f h=>h.2.eqT) λe21=>QF5 I<|QJ I (λ_ _ f k=>jT (q:=el c.2 i.i) (N:=N) f k.1.1.1.1 k.2.self (k.1.1.1.2.1.at O).1 hn1 (by rw[e21,hea];exact ho.mul _ hlt)) λc23=>JN _ (λ_ _ f h=>h.2.eqT) λe23=>?_);rw[e21,hea]at e23;refine QJ I (λ_ _ f k=>ja (p:=i.c) f k.1.1.1.1.1 k.1.1.2.self k.2.self (by rw[eA,e23];exact ho.add _ hlt)) (λc24=>JN _ (λ_ _ f h=>h.2.eqT) λe24=>?_);rw[eA,e23]at e24;refine wB 2 I<|Qi<|QD<|QB<|QA (Qm I I O)<|wB 2 I ?_
  exact Qj (⟨i.i+1,c24,hlt⟩) (by show rs.length-(i.i+1)<rs.length-i.i;omega) wW QGJ λF ⟨⟨⟨⟨⟨⟨hGl,hr,hP⟩,h9⟩,hA⟩,h21⟩,h23⟩,h24⟩=>⟨⟨⟨hGl,hr,hP⟩,h9⟩,by show Jl F c24.1 c24.2 (JX (Wz rs (JQ p.2) i.i++JX (JC (JX (X5 (i.i+1) (JQ p.2))) (el rs i.i))));rw[<-e24];exact h24.self⟩
 have hge:i.i=rs.length:=by have:=QGy hc2;have:=i.le;omega
 refine Qv ?_
 repeat first|refine QV ?_|refine QQ wy ?_
 refine QW<|QHD 8 I ?_
 exact QO (i.c) rfl (wN I) (rfl) λF h=>by have h1:=h.2;rw[hge]at h1;exact h1
theorem kh{a:K8}(hF:Fits F w)(hGl:JG F)(hy:Yl F y)(ht:Nb y)(he:y.e=0)(hR:Qy F a.1.q a.1.n 2 (a.2.flatMap KI))(hA:Zz F a.2)(hta:BP a)(hpe:XB (J0 a.2) (y.nm.n:Int)=0):QU prog 54 [y.v,a.1.v] w F (λ(c:(Sr×List VO)×VO)=>.tuple #[.agg (UG y c.1).toArray,c.2.1.v,.int .i64 0]) (λc F=>D8 F c.1 y.rs/\Jl F c.2.1 c.2.2 (JW (J0 a.2))):=by
 have ho:=hy.ok he;have hn1:=ho.n1;have hn0:=ho.n0;refine QU.intro (G:=λF=>JG F/\Yl F y/\Qy F a.1.q a.1.n 2 (a.2.flatMap KI)/\Zz F a.2) func54 rfl wy rfl rfl hF (λF' hF'=>⟨hGl.le hF',hy.le hF',hR.le hF',hA.le hF'⟩)<|QGi<|JE rfl (vs:=[_,_,_]) rfl λb2=>Qg Nj λb4=>QF6 rfl<|wQ rfl<|QGi<|QA (wI I Y3 .u1)<|QJ rfl (λ_ _ f k=>Ls (y:=y) f k.1 k.2.1 ht he) λc11=>QF5 rfl<|QA (QX rfl rfl)<|QA (QX rfl rfl)<|Qg Nj λb7=>QZ (vs:=[_,_,_,_,_]) rfl rfl rfl Ki rfl .here .h5 wW<|wQ rfl<|QG<|QGi<|QF5 rfl ?_
 refine QHB 3 I ?_;refine QP I (λhc=>?_) λhc=>?_
 ·refine wA 2 I<|QA (QH I Tl Qu)<|QA (Qh I Qu .here (.skip (.skip (.skip .h1))))<|QA (J1 I I O) ?_
  rw[show((y.nm.n:Int)+1-1)=y.nm.n by omega];refine QJ I (λ_ _ f k=>Ho f k.1.1 k.1.2.2.1 k.1.2.2.2 hta.1 hta.2.1 hta.2.2) (λ_=>?_);rw[show Mm (J0 a.2) (y.nm.n:Int)=0 by unfold Mm;rw[if_pos ((K5 _).2 O)];exact hpe];refine QHB 10 I ?_;refine QP I (λhc=>?_) λhc=>?_
  ·exact absurd hc (wz)
  refine QHC 3 I<|JL (.cons_cons _ (.cons _ tC)) mixed wm<|QL (QR (vs:=[_,_,_,_,_]) I Ki .here .h5 rfl)<|QL (QC I)<|Qc I (λ_ _ f k=>Wf f k.1.1.1 (a:=a) k.1.1.2.2.1 k.1.1.2.2.2 hta (Wh hpe) O) λc27=>Ji (vs:=[_,_,_,_,_]) I I I Ki I .u1 tC tA .h5 wW<|QL (QF I)<|QL (QF I)<|Q3<|QD<|QT ?_
  exact J9 (((c11,c27):(Sr×List VO)×VO)) I (.Jv (c:=[_,_,_,_,_]) I Ki .u1 (wO I I)) (rfl) λF h9=>⟨h9.1.1.2,h9.2⟩
 exact absurd hc (wz)
def xK(x:Int):Qn [x]=x:=by
 unfold Qn;split
 ·rename_i h;rw[h];rfl
 rfl
instance :Inhabited Sr:=⟨⟨none,0,0⟩⟩
structure NtJ(n:Nat) where
 i:Nat
 le:i<=n
def Cv(xs:List (Fr×Rat)):List (List UInt8):=xs.map λp=>JO p.2
def qy(h:i<xs.length):(Cv (xs.take (i+1))).map tx=(Cv (xs.take i)).map tx++[tx (JO (el xs i).2)]:=by rw[Xg h];simp[Cv]
def yf(h:i<=xs.length):((Cv (xs.take i)).map tx).length=i:=by simp[Cv];omega
def yr{vs:List Value}{z v:Value}(h:vs.length=i)(hi:i<n):Ym (vs++XP [z] (n-i)) (0+i*1) [v] ((vs++[v])++XP [z] (n-(i+1))):=pf h hi
theorem jk{c:Nat}(hF:Fits F w)(hGl:JG F)(hR:Qy F q n 4 (Yi xs))(hX:We F xs)(hn:xs.length=n)(hl:n<=1000000)(hz:∀p∈xs,Jn p.2<=100000000):
  QU prog 97 [.slice q n c] w F (λ(c:Sr)=>c.v) (λc F=>Qy F c.q c.n 1 ((Cv xs).map tx)/\c.n=n/\c.n<=c.cap):=by
 refine QU.intro (G:=λF=>JG F/\Qy F q n 4 (Yi xs)/\We F xs) func97 rfl wy rfl rfl hF (λF' hF'=>⟨hGl.le hF',hR.le hF',hX.le hF'⟩)<|QGi<|wQ rfl<|wR rfl<|QA (Qf rfl X4)<|Dz (n:=n) (bytes:=16) rfl rfl K3 Jk pB rfl QB0 O O λbk=>H6 (E':=⟨w,F,[(bk,.cells ((Cv (xs.take 0)).map tx++XP [tx []] (n-0)).toArray 41 (0,0))],λF=>JG F/\Qy F q n 4 (Yi xs)/\We F xs⟩) w9<|wQ rfl<|QG<|wR rfl<|QA (Qf rfl X4)<|QF5 rfl<|QF4<|QS<|Jo (ι:=NtJ xs.length) [(3,_),(9,_),(10,_)] (λi=>[(11,.int .i64 ((i.i:Nat):Int))]) (λi=>[(bk,.cells ((Cv (xs.take i.i)).map tx++XP [tx []] (n-i.i)).toArray 41 (0,0))]) (λi F=>True) (λi=>xs.length-i.i) (⟨0,Nat.zero_le _⟩) wU wS QGJ w8 λi=>?_
 simp only[List.cons_append,List.nil_append];have hi:=i.le;refine wA 6 I ?_;refine QP I (λhc2=>?_) λhc2=>?_
 ·have hlt:i.i<xs.length:=wk<|QGx hc2
  have hem:=JK hlt;refine QHC 7 I<|QA (Q2 (n:=n) i.i (λF h9=>h9.1.2.1) rfl rfl X4 Ql O)<|QA (XZ (n:=n) (vs:=[.int .i64 (el xs i.i).1.n.s,.slice (el xs i.i).1.n.q (el xs i.i).1.n.n (el xs i.i).1.n.cap,.int .i64 (el xs i.i).1.d.s,.slice (el xs i.i).1.d.q (el xs i.i).1.d.n (el xs i.i).1.d.cap]) ((i.i)*4) (λF h9=>h9.1.2.1) O I Ql I λj v hv=>Jg (f:=(λe=>B6 e.1)) (l:=xs) (λ_=>rfl) O hv)<|Qg KM λb5=>QF6 I<|QZ (vs:=[_,_,_,_]) I I I Ql I .here .h4 wV<|QHB 5 I<|QA (wJ I Ql .here)<|QJ I (λ_ _ f k=>Mz f k.1.1 (k.1.2.2 _ hem) (hz _ hem)) λ_=>QA (Qx (i:=i.i) rfl rfl K3 Jk O)<|QZ (vs:=[tx (JO (el xs i.i).2)]) I I I Jk I .u1 (yr (yf O) O) wS<|QE<|Qi<|QD<|QB ?_
  refine QA (Qm I I O)<|wB 2 I ?_
  exact Qj (⟨i.i+1,hlt⟩) (by show xs.length-(i.i+1)<xs.length-i.i;omega) wV ((by rw[qy hlt];exact .cons _ QGJ)) λF h=>⟨h.1.1,trivial⟩
 have hge:i.i=xs.length:=by have:=QGy hc2;have:=i.le;omega
 refine Qv ?_
 repeat first|refine QV ?_|refine QQ wy ?_
 refine QW<|QHD 3 I ?_
 have hzz:XP [tx []] (n-i.i)=[]:=by rw[show n-i.i=0 from by omega];rfl
 rw[hzz,List.append_nil,hge,List.take_length];refine GW (b:=bk) .here<|QHB 5 I ?_
 exact QO ((⟨some ⟨bk,0,none⟩,n,n⟩:Sr)) I (wN I) (rfl) λF h9=>⟨Qy.of h9.2 (by simp[Cv];omega),rfl,Nat.le_refl _⟩
def Cl.zero(d b:Nat):Cl Q d b 0:=⟨0,by rw[Rat.zero_divInt],wz⟩
theorem Cl.one(d b:Nat)(h0:0<Q):Cl Q d b 1:=⟨((Q^d:Nat):Int),by
 have hq:((Q^d:Nat):Int)≠0:=wk (Nat.pow_pos (n:=d) h0);rw[Rat.divInt_self' hq],by rw[Int.natAbs_natCast];exact Nat.le_mul_of_pos_left _ (Nat.pow_pos wu)⟩
section
variable{Q d b e c:Nat}{x y:Rat×Rat}(h0:0<Q)
include h0
variable{al be:Nat}{a a':List SpQ}
def Hz(ks:List Int):Nat->Nat
 |0=>0
 |v+1=>Hz ks v+(Qd ks v).toNat
omit h0 in
theorem zV(ks:List Int){v w:Nat}(h:v<=w):Hz ks v<=Hz ks w:=by
 induction w with
 |zero=>rw[Nat.le_zero.1 h];exact Nat.le_refl _
 |succ w ih =>
  rcases Nat.lt_or_ge v (w+1)with g | g
  ·exact Nat.le_trans (ih O) (Nat.le_add_right _ _)
  rw[Nat.le_antisymm h g];exact Nat.le_refl _
end
structure SmI{α:Type}(a b:List α) where
 i:Nat
 le:i<=a.length
 h:a.take i=b.take i
def SmI.step{α:Type}[Inhabited α]{a b:List α}(s:SmI a b)(h1:s.i<a.length)(h2:s.i<b.length)(e:el a s.i=el b s.i):a.take (s.i+1)=b.take (s.i+1):=by rw[Xg h1,Xg h2,s.h,e]
def SmI.done{α:Type}{a b:List α}(s:SmI a b)(hl:a.length=b.length)(h:s.i=a.length):a=b:=by
 have e:=s.h;rw[h,List.take_length,hl,List.take_length]at e;exact e
instance :Inhabited (List UInt8×List UInt8):=⟨([],[])⟩
theorem F4{ra rb:Sr}{la lb:List (List UInt8)}(hF:Fits F w)(ha:Qy F ra.q ra.n 1 (la.map tx))(hb:Qy F rb.q rb.n 1 (lb.map tx))(hal:la.length=ra.n)(hbl:lb.length=rb.n)(hn:ra.n<=1000000):Qb prog 19 [ra.v,rb.v] w F (.bool (decide (la=lb))):=by
 refine QU.intro (G:=λF=>Qy F ra.q ra.n 1 (la.map tx)/\Qy F rb.q rb.n 1 (lb.map tx)) func19 rfl wy rfl rfl hF (λF' hF'=>⟨ha.le hF',hb.le hF'⟩)<|QGi<|wQ rfl<|QG<|wR rfl<|QA (Qf rfl K3)<|QF5 rfl<|QA (Qf rfl K3)<|QA (QN rfl rfl rfl)<|QE<|QD ?_
 refine QP I (λhc=>?_) λhc=>?_
 ·have h10:=bne_iff_ne.1 hc;refine wA 6 I ?_;exact QHT I I (congrArg Value.bool (decide_eq_false λe=>h10 (by rw[<-hal,<-hbl,e]))) w8
 have h10:=bne_eq_false_iff_eq.1 hc;refine QHC 9 I<|J2 (ι:=SmI la lb) [(0,_),(1,_)] (λi=>[(5,.int .i64 ((i.i:Nat):Int))]) (λi=>la.length-i.i) (⟨0,Nat.zero_le _,rfl⟩) wT wS λi=>?_
 simp only[List.cons_append,List.nil_append];have hi:=i.le;refine wA 5 I<|QA (Qf I K3)<|QHB 3 I ?_
 refine QP I (λhc=>?_) λhc=>?_
 ·have hlt:i.i<la.length:=wk<|QGx hc
  have hlt2:i.i<lb.length:=O;refine QHC 5 I<|JL QGJ mixed wm<|QL (QC I)<|QL (QC I)<|QL (Q2 (n:=ra.n) i.i tA rfl rfl K3 Jk O)<|QL (Qz (n:=ra.n) ((i.i)*1) tA O I Jk (ZD (f:=tx) (l:=la) O))<|QL (QC I)<|QL (QC I)<|QL (Q2 (n:=rb.n) i.i tB rfl rfl K3 Jk O)<|QL (Qz (n:=rb.n) ((i.i)*1) tB O I Jk (ZD (f:=tx) (l:=lb) O))<|QL (TL I I)<|Q3<|QD ?_
  refine QP I (λhc=>?_) λhc=>?_
  ·have hne:¬(el la i.i)=(el lb i.i):=bne_iff_ne.1 hc;refine wA 6 I ?_
   repeat first|refine Qw ?_|refine Qp ?_
   exact QHT I I (congrArg Value.bool (decide_eq_false λe=>hne (congrArg (λl=>el l i.i) e))) w8
  have heq:(el la i.i)=(el lb i.i):=bne_eq_false_iff_eq.1 hc;refine QM<|Qi<|QHD 3 I<|QA (Qm I I O)<|wB 2 I ?_
  exact Qj (⟨i.i+1,hlt,i.step hlt hlt2 heq⟩) (by show la.length-(i.i+1)<la.length-i.i;omega) wU QGJ w9
 have hge:i.i=la.length:=by have:=QGy hc;have:=i.le;omega
 refine Qv ?_
 repeat first|refine QV ?_|refine QQ wy ?_
 refine QW<|QHD 7 I ?_
 exact QHT I I (congrArg Value.bool (decide_eq_true (i.done O hge))) w8
structure Cs(F:Gs)(y:Zh)(nl:List (List UInt8))(rl:List Pt)(sl:List (List UInt8×List UInt8)):Prop where
 r:Yl F y
 t:Nb y
 n:y.nl=nl
 p:y.rl.map (λe=>J0 e.2)=rl
 s:y.sl=sl
theorem Cs.e(h:Cs F y nl rl sl):y.e=BB nl rl sl:=by unfold Zh.e;rw[h.n,h.p,h.s]
def Cs.rs(h:Cs F y nl rl sl):y.rs=rl.map JW:=by unfold Zh.rs;rw[<-h.p,List.map_map];rfl
theorem Cs.vs(h:Cs F y nl rl sl):y.vs=sl.map ZR:=by unfold Zh.vs;rw[h.s]
def Cs.nn(h:Cs F y nl rl sl):y.nm.n=nl.length:=by rw[<-h.r.AL,h.n]
theorem uO(h0:0<Q)(hd:(k+1) ∣ Q):Cl Q 1 0 ((((k+1:Nat):Int):Rat)⁻¹):=by
 obtain⟨q,rfl⟩:=hd;have hq:0<q:=Nat.pos_of_ne_zero (by rintro rfl;simp at h0);refine⟨q,?_,?_⟩
 ·rw[Nat.pow_one,Int.natCast_mul];have e:Rat.divInt (q:Int) (((k+1:Nat):Int)*(q:Int))=Rat.divInt (1*(q:Int)) (((k+1:Nat):Int)*(q:Int)):=by rw[Int.one_mul]
  rw[e,Rat.divInt_mul_right O,Rat.divInt_eq_div,Rat.div_def,Rat.intCast_one,Rat.one_mul]
 rw[Nat.pow_one,Int.natAbs_natCast,Nat.pow_zero,Nat.one_mul];exact Nat.le_mul_of_pos_left _ O
def Q0:Nat:=2^64*720720
def uj:0<Q0:=wv
def R1:List (List Tm):=([[([49],[0,1])]]:List Pt).map JW
def kX:∀k,k<16->Cl Q0 1 0 ((((k+1:Nat):Int):Rat)⁻¹):=λk hk=>uO uj (Nat.dvd_of_mod_eq_zero ((by decide +kernel:∀k,k<16->Q0%(k+1)=0) k hk))
end Go.Proofs.YtpmehagnedbkhaaGreatDoor
