/- Steps of the proof of the theorem in the last file. -/
import Derived.Test.YtpmehagnedbkhaaGreatDoorE0XCy
set_option linter.all false
set_option maxHeartbeats 4000000
open Go.Proofs.Tryz
namespace Go.Proofs.YtpmehagnedbkhaaGreatDoor
variable{w:World}{F:Gs}{y:Zh}{a c:K8}{b:Nat}{k:List Int}{A B:Se}
open Go.RowKit Ig
structure ThR(F:Gs)(c:Sr×List Sr):Prop where
 row:Qy F c.1.q 2 1 (c.2.map Sr.v)
 len:c.2.length=2
 r0:Qy F (el c.2 0).q (el c.2 0).n 1 ([[49],[48],[48],[48]].map tx)
 n0:(el c.2 0).n=4
 r1:Qy F (el c.2 1).q (el c.2 1).n 1 ([[48],[45,49],[48],[48]].map tx)
 n1:(el c.2 1).n=4
theorem QEQ(hF:Fits F w)(hGl:JG F)(hy:Cs F y thN thR thS):QU prog 18 [y.v,.int .i64 3] w F (λ(c:Sr×List Sr)=>.tuple #[.slice c.1.q 2 c.1.cap,.int .i64 0]) (λc F=>ThR F c):=by
 have hn:y.nm.n=2:=hy.nn;have h:=Cq (o:=3) hF hGl hy.r hy.t (hy.e.trans wv) (QEO hy);rw[QAs hy,QFd hy,hn]at h;refine h.imp λc F1 h=>⟨c,by rw[<-h.nn],λF2 k=>?_⟩;have h0:=h.at_ 0 wu;have h1:=h.at_ 1 wu;unfold SxR at h0 h1;rw[QGE]at h0;rw[QGD]at h1;exact⟨h.row.le k,h.len,by rw[h0.2];exact h0.1.le k,h0.2,by rw[h1.2];exact h1.1.le k,h1.2⟩
theorem QET(hF:Fits F w)(hGl:JG F)(hy:Cs F y thN thR thS)(hA:KL F [a])(e:J0 a.2=thP)(hta:BP a):QU prog 11 [y.v,a.1.v] w F (λ(c:K8)=>.tuple #[c.1.v,.int .i64 0]) (λc F=>Ka F c.1 c.2 thD):=by
 have hn:y.nm.n=2:=hy.nn;have hz:=QAt hy;have hp:=QFf hy;have hr:y.rs.length=2:=by rw[QAs hy];rfl
 have h:=QBd (a:=a) hF hGl hy.r hy.t (hy.e.trans wv) (hA a (.head _)).1 (hA a (.head _)).2 hta (by rw[e,hn];decide +kernel) (by rw[e,hn,<-hr];exact QDc hz hp) (by rw[e];exact QCp hz hp);rw[e,QAs hy]at h;exact h.imp λc F1 h=>⟨c,rfl,λF2 k=>by
  have h2:=h.le k;rw[show QAu.length=2 from rfl,QGC]at h2;exact h2⟩
theorem QES{b:K8}(hF:Fits F w)(hGl:JG F)(hA:KL F [a,b])(ea:J0 a.2=thA)(eb:J0 b.2=thB)(hta:∀e∈[a,b],BP e):QU prog 9 [a.1.v,b.1.v,.int .i64 2] w F (λ(c:K8)=>.tuple #[c.1.v,.int .i64 0]) (λc F=>Ka F c.1 c.2 thM) :=
 AO hF hGl hA hta ea eb wu wv wv QFe.1 QFe.2
theorem cA{b:K8}{p:Pt}(hF:Fits F w)(hA:Ka F c.1 c.2 p)(hB:KL F [b])(e:J0 b.2=p)(hbn:b.2.length=b.1.n)(hp:∀x∈p,x.1.length<=1000000/\x.2.length<=1000000)(hl:p.length<=1000000):Qb prog 12 [c.1.v,b.1.v] w F (.bool true):=by
 have ht:=hA.Cu hp hl;have h:=Uk (q:=c.1.q) (n:=c.1.n) (cap:=c.1.cap) (q2:=b.1.q) (n2:=b.1.n) (cap2:=b.1.cap) hF hA.1 hA.2.1 (hB b (.head _)).1 (hB b (.head _)).2 ht.1 hbn (λt htt=>(ht.2.1 t htt).2) ht.2.2;rw[hA.2.2.1,e,decide_eq_true rfl]at h;exact h
def ap1{b1:Nat}{f:List UInt8}{T T1:TypeId}(h1:F b1=some ((k.map Q7).toArray,T1))(h:F b=some ((KI (FX f b1 k)).toArray,T)):KL F [zh b [FX f b1 k]]:=λe he=>by
 rw[List.mem_singleton.1 he];exact⟨Qy.of h rfl,λt ht=>by rw[List.mem_singleton.1 ht];exact BF h1⟩
def ap2{b1 b2:Nat}{f f2:List UInt8}{k2:List Int}{T T1 T2:TypeId}(h1:F b1=some ((k.map Q7).toArray,T1))(h2:F b2=some ((k2.map Q7).toArray,T2))(h:F b=some ((KI (FX f b1 k)++KI (FX f2 b2 k2)).toArray,T)):KL F [zh b [FX f b1 k,FX f2 b2 k2]]:=λe he=>by
 rw[List.mem_singleton.1 he];refine⟨Qy.of h rfl,λt ht=>?_⟩;simp only[zh,List.mem_cons,List.not_mem_nil,or_false]at ht;rcases ht with rfl | rfl
 ·exact BF h1
 exact BF h2
def ap3{b1 b2 b3:Nat}{f f2 f3:List UInt8}{k2 k3:List Int}{T T1 T2 T3:TypeId}(h1:F b1=some ((k.map Q7).toArray,T1))(h2:F b2=some ((k2.map Q7).toArray,T2))(h3:F b3=some ((k3.map Q7).toArray,T3))(h:F b=some ((KI (FX f b1 k)++(KI (FX f2 b2 k2)++KI (FX f3 b3 k3))).toArray,T)):KL F [zh b [FX f b1 k,FX f2 b2 k2,FX f3 b3 k3]]:=λe he=>by
 rw[List.mem_singleton.1 he];refine⟨Qy.of h rfl,λt ht=>?_⟩;simp only[zh,List.mem_cons,List.not_mem_nil,or_false]at ht;rcases ht with rfl | rfl | rfl
 ·exact BF h1
 ·exact BF h2
 exact BF h3
def QDn{ts:List Gn}(h:∀t∈ts,t.f.length<=1000000/\t.k.length<=1000000)(hl:ts.length<=1000000):BP (zh b ts):=⟨rfl,h,hl⟩
def KL.two{b:K8}(h:KL F [a])(k:KL F [b]):KL F [a,b]:=λe he=>by
 rcases List.mem_cons.1 he with rfl | he
 ·exact h _ (.head _)
 exact k e he
theorem vw{ra:Sr}{n c:Nat}{la:List (List UInt8)}{T:TypeId}(hF:Fits F w)(ha:Qy F ra.q ra.n 1 (la.map tx))(hn:ra.n=n)(hb:F b=some ((la.map tx).toArray,T))(hl:la.length=n)(hn2:n<=1000000):Qb prog 19 [ra.v,.slice (some ⟨b,0,none⟩) n c] w F (.bool true):=by
 have h:=F4 (ra:=ra) (rb:=⟨some ⟨b,0,none⟩,n,c⟩) (la:=la) (lb:=la) hF ha (Qy.of hb (by simp[hl])) O hl O;rw[decide_eq_true rfl]at h;exact h
def QAv(b b1:Nat)(f:List UInt8)(k:List Int)(h:f.length<=10/\k.length<=10):BP (zh b [FX f b1 k]):=QDn (λt ht=>by rw[List.mem_singleton.1 ht];exact⟨by show f.length<=_;omega,by show k.length<=_;omega⟩) (by show 1<=1000000;decide)
def QEP(b b1 b2:Nat)(f f2:List UInt8)(k k2:List Int)(h:f.length<=10/\k.length<=10)(h2:f2.length<=10/\k2.length<=10):BP (zh b [FX f b1 k,FX f2 b2 k2]):=QDn (λt ht=>by
 simp only[List.mem_cons,List.not_mem_nil,or_false]at ht;rcases ht with rfl | rfl
 ·exact⟨by show f.length<=_;omega,by show k.length<=_;omega⟩
 exact⟨by show f2.length<=_;omega,by show k2.length<=_;omega⟩) (by show 2<=1000000;decide)
theorem qS(hF:Fits F w)(hGl:JG F):Qb prog 8 [] w F (.bool true):=by
 refine QU.intro (G:=λF=>JG F) func8 rfl wy rfl rfl hF (λF' hF'=>hGl.le hF')<|QGi<|wQ rfl<|QGi<|QJ rfl (λ_ _ f k=>QAw f) λc8=>QJ rfl (λ_ _ f k=>QEQ (y:=c8) f k.1 k.2) λc9=>JN _ (λw F hF ⟨⟨hGl,hy8⟩,h9⟩=>h9.len) λl9=>QF5 rfl<|QA (QX rfl rfl)<|QA (QX rfl rfl)<|QF6 rfl<|wQ rfl<|QGi<|QJ rfl (λ_ _ f k=>QAw f) λc13=>Qs rfl (JU Qk) Qu BR rfl rfl λb14=>QJ rfl (λ_ _ f k=>BS f) λ_=>Qs rfl (JU ZI) Zl Ro rfl rfl λb16=>QJ rfl (λ_ _ f k=>QET (y:=c13) (a:=(zh b16 [FX [49] b14 [0,1,1]])) f k.1.1.1.1.1.1 k.1.1.1.2 (ap1 k.1.1.2 k.2) rfl (QAv _ _ _ _ ⟨wu,wu⟩)) λc17=>?_
 refine QHB 9 I<|Qs I (JU Qk) Qu BR I I λb21=>QJ I (λ_ _ f k=>BS f) λ_=>Qs I (JU ZI) Zl Ro I I λb23=>Qs I (JU Qk) Qu BR I I λb24=>QJ I (λ_ _ f k=>BS f) λ_=>Qs I (JU Qk) Qu BR I I λb26=>QJ I (λ_ _ f k=>BS f) λ_=>Qs I (JU ZI) Zl Ro I I λb28=>?_
 refine QJ I (λw F hF ⟨⟨⟨⟨⟨⟨⟨⟨⟨⟨⟨⟨⟨⟨⟨hGl,hy8⟩,h9⟩,hy13⟩,hs14⟩,_⟩,hs16⟩,h17⟩,hs21⟩,_⟩,hs23⟩,hs24⟩,_⟩,hs26⟩,_⟩,hs28⟩=>QES (a:=(zh b23 [FX [49] b21 [0,1,0]])) (b:=(zh b28 [FX [50] b24 [0,1,0],FX [49] b26 [0,0,0]])) hF hGl ((ap1 hs21 hs23).two (ap2 hs24 hs26 hs28)) I I (λe he=>by
  simp only[List.mem_cons,List.not_mem_nil,or_false]at he;rcases he with rfl | rfl
  ·exact QAv _ _ _ _ ⟨wu,wu⟩
  exact QEP _ _ _ _ _ _ _ ⟨wu,wu⟩ ⟨wu,wu⟩)) λc29=>?_
 refine QHB 12 I<|QA (Qm I I O)<|QF5 I<|QA (Qm I I O)<|QA (QN (v:=.bool false) rfl rfl (rfl))<|wB 4 I<|QA (Qf I Ua)<|QK I I<|QA (QN (v:=.bool false) rfl rfl (rfl))<|wB 2 I ?_
 refine wB 3 I<|QA (Q2 (n:=2) (0) (λF ⟨⟨⟨⟨⟨⟨⟨⟨⟨⟨⟨⟨⟨⟨⟨⟨hGl,hy8⟩,h9⟩,hy13⟩,hs14⟩,_⟩,hs16⟩,h17⟩,hs21⟩,_⟩,hs23⟩,hs24⟩,_⟩,hs26⟩,_⟩,hs28⟩,h29⟩=>h9.row) rfl wM Ua Rt O)<|QK I I<|QA (Qz (n:=2) ((0)*1) (λF ⟨⟨⟨⟨⟨⟨⟨⟨⟨⟨⟨⟨⟨⟨⟨⟨hGl,hy8⟩,h9⟩,hy13⟩,hs14⟩,_⟩,hs16⟩,h17⟩,hs21⟩,_⟩,hs23⟩,hs24⟩,_⟩,hs26⟩,_⟩,hs28⟩,h29⟩=>h9.row) O I Rt (ZD (f:=Sr.v) (l:=c9.2) (by first | omega | (rw[l9];decide))))<|QK I I<|Qs I (JU K3) Jk pB I I λb47=>QK I I<|QJ I (λw F hF ⟨⟨⟨⟨⟨⟨⟨⟨⟨⟨⟨⟨⟨⟨⟨⟨⟨hGl,hy8⟩,h9⟩,hy13⟩,hs14⟩,_⟩,hs16⟩,h17⟩,hs21⟩,_⟩,hs23⟩,hs24⟩,_⟩,hs26⟩,_⟩,hs28⟩,h29⟩,hs47⟩=>vw (ra:=el c9.2 0) (la:=[[49],[48],[48],[48]]) hF h9.r0 h9.n0 hs47 rfl wu) λ_=>QK I I<|QA (Jw (b:=true) rfl)<|wB 5 I<|QA (Q2 (n:=2) (1) (λF ⟨⟨⟨⟨⟨⟨⟨⟨⟨⟨⟨⟨⟨⟨⟨⟨⟨⟨hGl,hy8⟩,h9⟩,hy13⟩,hs14⟩,_⟩,hs16⟩,h17⟩,hs21⟩,_⟩,hs23⟩,hs24⟩,_⟩,hs26⟩,_⟩,hs28⟩,h29⟩,hs47⟩,_⟩=>h9.row) rfl wM Ua Rt O)<|QK I I<|QA (Qz (n:=2) ((1)*1) (λF ⟨⟨⟨⟨⟨⟨⟨⟨⟨⟨⟨⟨⟨⟨⟨⟨⟨⟨hGl,hy8⟩,h9⟩,hy13⟩,hs14⟩,_⟩,hs16⟩,h17⟩,hs21⟩,_⟩,hs23⟩,hs24⟩,_⟩,hs26⟩,_⟩,hs28⟩,h29⟩,hs47⟩,_⟩=>h9.row) O I Rt (ZD (f:=Sr.v) (l:=c9.2) (by first | omega | (rw[l9];decide))))<|QK I I<|Qs I (JU K3) Jk pB I I λb55=>QK I I<|QJ I (λw F hF ⟨⟨⟨⟨⟨⟨⟨⟨⟨⟨⟨⟨⟨⟨⟨⟨⟨⟨⟨hGl,hy8⟩,h9⟩,hy13⟩,hs14⟩,_⟩,hs16⟩,h17⟩,hs21⟩,_⟩,hs23⟩,hs24⟩,_⟩,hs26⟩,_⟩,hs28⟩,h29⟩,hs47⟩,_⟩,hs55⟩=>vw (ra:=el c9.2 1) (la:=[[48],[45,49],[48],[48]]) hF h9.r1 h9.n1 hs55 rfl wu) λ_=>QK I I ?_
 refine QA (Jw (b:=true) rfl)<|QHB 3 I<|Xo I<|QHC 5 I<|Qs I (JU Qk) Qu BR I I λb60=>QJ I (λ_ _ f k=>BS f) λ_=>Qs I (JU Qk) Qu BR I I λb62=>QJ I (λ_ _ f k=>BS f) λ_=>Qs I (JU ZI) Zl Ro I I λb64=>QJ I (λ_ _ f k=>cA (b:=(zh b64 [FX [50] b60 [0,2,0],FX [49] b62 [0,1,0]])) f k.1.1.1.1.1.1.1.1.1.2 (ap2 k.1.1.1.1.2 k.1.1.2 k.2) rfl rfl wu wu) λ_=>wB 4 I<|Qs I (JU Qk) Qu BR I I λb68=>QK I I<|QJ I (λ_ _ f k=>BS f) λ_=>QK I I<|Qs I (JU Qk) Qu BR I I λb70=>?_
 refine QK I I<|QJ I (λ_ _ f k=>BS f) λ_=>QK I I<|Qs I (JU Qk) Qu BR I I λb72=>QK I I<|QJ I (λ_ _ f k=>BS f) λ_=>QK I I<|Qs I (JU ZI) Zl Ro I I λb74=>QK I I<|QJ I (λ_ _ f k=>cA (b:=(zh b74 [FX [49] b68 [1,0,1],FX [45,49] b70 [0,2,0],FX [49] b72 [0,0,2]])) f k.1.1.1.1.1.1.1.1.1.1.1.1.1.1.1.1.1.1.1.1.1.1.1.1.1.1.2 (ap3 k.1.1.1.1.1.1.2 k.1.1.1.1.2 k.1.1.2 k.2) rfl rfl wu wu) λ_=>QHB 5 I ?_
 exact QHT I I (rfl) w8
section
variable{w:World}{F:Gs}{y:Zh}
def QGO(a:List UInt8):L4 .neq (tx a) (tx a)=some (.bool false):=by simp[L4,tx]
theorem kG{L:List Tm}(hF:Fits F w)(hGl:JG F)(hy:Yl F y)(ht:Nb y)(he:y.e=0)(h:Lz y)(hA:Ka F c.1 c.2 (X9 L))(hb:Bq (y.rs.length+1) L)(hok:UD y.rs L (y.rs.length+1))(hs:de (RI y L)):
  QU prog 11 [y.v,c.1.v] w F (λ(d:K8)=>.tuple #[d.1.v,.int .i64 0]) (λd F=>Ka F d.1 d.2 (X9 (RI y L))):=by
 have hm:=h.m2;have hn:=h.nm;have h1:=QBd (a:=c) hF hGl hy ht he hA.1 hA.2.1 (hb.Cu O hA) (by rw[hA.2.2.1];exact hb.I8 O) (by rw[hA.2.2.1,YQ,hn];exact hok) (by rw[hA.2.2.1,YQ];exact hs);rw[hA.2.2.1,YQ]at h1;exact h1
theorem xw{L:List Tm}(eA:Se.cmp (Se.Hi y.rs y.s0) L=A)(hF:Fits F w)(hGl:JG F)(hy:Yl F y)(ht:Nb y)(he:y.e=0)(h:Lz y)(hA:Ka F c.1 c.2 (X9 L))(hb:Bq (y.rs.length+1) L)(hc:Se.zN (Se.Hi y.rs y.s0) L (y.rs.length+1) 5)(hz:∀k,k<5->Jn (A k)<=1800):
  QU prog 13 [y.v,c.1.v,.int .i64 4] w F (λ(d:Sr)=>.tuple #[.slice d.q 5 d.cap,.int .i64 0]) (λd F=>Qy F d.q 5 1 ((Mq A 4).map tx)):=by
 subst eA;have hm:=h.m2;have hn:=h.nm;have h1:=QBe (a:=c) (o:=4) hF hGl hy ht he hA.1 hA.2.1 (hb.Cu O hA) (by rw[hA.2.2.1];exact hb.I8 O) h.sys (by rw[hA.2.2.1,YQ,hn];exact hc) (by rw[hA.2.2.1,YQ];exact hz);rw[hA.2.2.1,YQ]at h1;exact h1.imp λc F1 h2=>⟨c,by rw[show c.v = .slice c.q 5 c.cap from by rw[Sr.v,h2.2]],λF2 k=>h2.1.le k⟩
structure QGZ(F:Gs)(c:Sr×List Sr)(X:Nat->Se)(n:Nat):Prop where
 row:Qy F c.1.q n 1 (c.2.map Sr.v)
 len:c.2.length=n
 at_:∀v,v<n->Qy F (el c.2 v).q (el c.2 v).n 1 ((Mq (X (v+1)) 4).map tx)/\(el c.2 v).n=5
theorem QA6{n:Nat}{X:Nat->Se}(hF:Fits F w)(hGl:JG F)(hy:Yl F y)(ht:Nb y)(he:y.e=0)(ho:ue y 4)(hn:y.nm.n=n)(hX:∀v,v<=n->Se.Hi y.rs y.s0 v=X v):
  QU prog 18 [y.v,.int .i64 4] w F (λ(c:Sr×List Sr)=>.tuple #[.slice c.1.q n c.1.cap,.int .i64 0]) (λc F=>QGZ F c X n):=by
 have h1:=Cq (o:=4) hF hGl hy ht he ho;subst hn;exact h1.imp λc F1 h2=>⟨c,by rw[show c.1.v = .slice c.1.q y.nm.n c.1.cap from by rw[Sr.v,h2.nn]],λF2 k=>⟨h2.row.le k,h2.len,λv hv=>by
  have h3:=h2.at_ v hv;rw[hX (v+1) O]at h3;exact⟨by rw[h3.2];exact h3.1.le k,h3.2⟩⟩⟩
theorem yh{q:Option Addr}{cap:Nat}(hF:Fits F w)(hR:Qy F q 5 1 ((Mq A 4).map tx))(hz:∀k,k<5->Jn (A k)<=1800):Qb prog 14 [.slice q 5 cap] w F (.int .i64 0):=by
 have hm:∀s∈Mq A 4,∃k,k<5/\s=JO (A k):=λs hs=>by
  obtain⟨k,hk,rfl⟩:=List.mem_map.1 hs;exact⟨k,List.mem_range.1 hk,rfl⟩
 have h1:=Co (c:=cap) hF hR ⟨N1 A 4,λs hs=>by
  obtain⟨k,hk,rfl⟩:=hm s hs;have:=GI (A k);have:=hz k hk;omega⟩ wu
 have h2:Qn ((Mq A 4).map Jy)=0:=Wt λx hx=>by
  obtain⟨s,hs,rfl⟩:=List.mem_map.1 hx;obtain⟨k,hk,rfl⟩:=hm s hs;exact Ea (W2 (hz k hk) (Nat.le_refl _))
 rw[h2]at h1;exact h1
theorem cF{ra rb:Sr}(hF:Fits F w)(ha:Qy F ra.q ra.n 1 ((Mq A 4).map tx))(hn:ra.n=5)(hb:Qy F rb.q rb.n 1 ((Mq B 4).map tx))(hn5:rb.n=5)(e:A=B):Qb prog 19 [ra.v,rb.v] w F (.bool true):=by
 subst e;have h:=F4 (ra:=ra) (rb:=rb) hF ha hb (by rw[N1,hn]) (by rw[N1];exact hn5.symm) O;rw[decide_eq_true rfl]at h;exact h
def xS(y:Zh)(P:List Tm)(v:Nat):Se:=if v<=y.rs.length then Se.Hi y.rs y.s0 v else Se.cmp (Se.Hi y.rs y.s0) P
def QFa{P:List Tm}{v:Nat}(h:v<=y.rs.length):xS y P v=Se.Hi y.rs y.s0 v:=if_pos h
def QFb{P:List Tm}:xS y P (y.rs.length+1)=Se.cmp (Se.Hi y.rs y.s0) P:=if_neg O
structure QGk(F:Gs)(z y:Zh)(P:List Tm):Prop where
 r:Yl F z
 t:Nb z
 e:z.e=0
 s:ue z 4
 n:z.nm.n=y.nm.n+1
 x:∀v,v<=y.nm.n+1->Se.Hi z.rs z.s0 v=xS y P v
theorem QE2{P:List Tm}{s:List UInt8}(hF:Fits F w)(hGl:JG F)(hy:Yl F y)(ht:Nb y)(he:y.e=0)(h:Lz y)(hp:Lp y P)(hA:Ka F a.1 a.2 (X9 P))(hs:Cp s=true)(hsl:s.length<=1000)(hc:¬s∈y.nl):
  QU prog 17 [y.v,tx s,a.1.v] w F (λ(z:Zh)=>.tuple #[z.v,.int .i64 0]) (λz F=>QGk F z y P):=by
 have hm:=h.m2;have hn:=h.nm;have hok:=hy.ok he;have hb:=Lp.bq h hp;have htm:XB (J0 a.2) (y.nm.n:Int)=0:=by rw[hA.2.2.1];exact hb.I8 O
 have h1:=QAY (a:=a) (s:=s) (lo:=JO (vx y P)) (up:=JO (vx y P)) hF hGl hy ht he hA.1 hA.2.1 (hb.Cu O hA) htm (Wh htm) O hs hc O
  (by rw[hA.2.2.1,YQ,hn];exact QDc h hp) (by rw[hA.2.2.1,YQ];exact QCp h hp)
  (by rw[hA.2.2.1,YQ];exact(QA7 h hp (List.mem_append_right _ (.head _))).2)
  (λq hq=>(QA7 h hp (List.mem_append_left _ (List.mem_map_of_mem hq))).2)
  (by rw[hA.2.2.1];exact QA1 h hp hok.st)
 rw[hA.2.2.1,YQ]at h1;exact h1.imp λz F1 h2=>⟨z,rfl,λF2 k=>by
  obtain⟨⟨e1,e2,e3,e4⟩,e5,e6⟩:=QFq h hp hy ht he hs hc hsl h2;exact⟨h2.hz.le k,e6,e5,QFi h hp e1 e2 e3 e4,e4,λv hv=>by rw[e1,e2];exact QA2 h hp O⟩⟩
end
def prT(A B:Se)(k:Nat):Nat->List UInt8
 |0=>[48]
 |i+1=>JO (Se.pr A B k (i+1))
def QBI(A B:Se)(k:Nat):∀i,prT A B k i=JO (Se.pr A B k i)
 |0=>Ey.symm
 |i+1=>rfl
def QCx(A B:Se)(k:Nat):prT A B k (k+1)=JO ((A*B) k):=by rw[QBI,Se.pg]
def cJ{k i:Nat}(h:i<=k):Se.pr A B k i+A i*B (k-i)=Se.pr A B k (i+1):=by rw[Se.pr,if_pos h]
def QDw{k:Nat}(ha:∀i,i<5->Jn (A i)<=1800)(hb:∀i,i<5->Jn (B i)<=1800)(hk:k<5):∀i,i<=k+1->Jn (Se.pr A B k i)<=1+i*3602
 |0,_=>by show Jn 0<=_;decide
 |i+1,h=>by
  have h1:=QDw ha hb hk i O;rw[<-cJ O];have h2:=RJ (Se.pr A B k i) (A i*B (k-i));have h3:=KO (A i) (B (k-i));have h4:=ha i O;have h5:=hb (k-i) O;omega
theorem QCy{k i:Nat}(hF:Fits F w)(ha:∀i,i<5->Jn (A i)<=1800)(hb:∀i,i<5->Jn (B i)<=1800)(hk:k<5)(hi:i<=k):Qb prog 16 [tx (el (Mq A 4) i),tx (el (Mq B 4) (k-i))] w F (tx (JO (A i*B (k-i)))):=by
 rw[ya A O,ya B O];exact QBB hF (wk<|ha i O) (wk<|hb (k-i) O)
theorem QCz{k i:Nat}(hF:Fits F w)(ha:∀i,i<5->Jn (A i)<=1800)(hb:∀i,i<5->Jn (B i)<=1800)(hk:k<5)(hi:i<=k):Qb prog 15 [tx (prT A B k i),tx (JO (A i*B (k-i)))] w F (tx (prT A B k (i+1))):=by
 rw[QBI,prT,<-cJ hi];have h1:=QDw ha hb hk i O;have h2:=KO (A i) (B (k-i));have h4:=ha i O;have h5:=hb (k-i) O;exact yk hF O O
def lzB(y:Zh)(a b:K8):Bool:=!(!(O9 y 2 3 2&&y.sl.all exY)||!(OG (J0 a.2) (y.nm.n:Int) 3 2 4)||!(OG (J0 b.2) (y.nm.n:Int) 3 2 4))
def QFp{b:K8}(h:lzB y a b=true):O9 y 2 3 2=true/\y.sl.all exY=true/\OG (J0 a.2) (y.nm.n:Int) 3 2 4=true/\OG (J0 b.2) (y.nm.n:Int) 3 2 4=true:=by
 unfold lzB at h;simp only[Bool.not_eq_true',Bool.or_eq_false_iff,Bool.not_eq_false',Bool.and_eq_true]at h;exact⟨h.1.1.1,h.1.1.2,h.1.2,h.2⟩
def uW{v t d:Int}(h:O9 y v t d=true):(y.nm.n:Int)<=v/\y.e=0:=by
 unfold O9 at h;rw[Bool.and_eq_true]at h;have:=kq h.1;exact⟨this.1,this.2.1⟩
structure ApL(F:Gs)(a:K8):Prop where
 r:Qy F a.1.q a.1.n 2 (a.2.flatMap KI)
 x:Zz F a.2
 c:a.1.n<=a.1.cap
 n:a.2.length=a.1.n
 t:∀t∈a.2,t.f.length<=9223372036854775807/\t.k.length<=9223372036854775807
 l:a.2.length<=9223372036854775807
theorem ApL.le{F':Gs}(h:ApL F a)(k:Gs.le F F'):ApL F' a:=⟨h.r.le k,h.x.le k,h.c,h.n,h.t,h.l⟩
theorem ApL.p{P:Pt}(h:ApL F a)(e:J0 a.2=P):Ka F a.1 a.2 P:=⟨h.r,h.x,e,h.c,h.n⟩
set_option maxRecDepth 20000 in
set_option maxHeartbeats 4000000 in
theorem QAQ{b:K8}(hF:Fits F w)(hGl:JG F)(hy:Yl F y)(hu:y.nm.n<=24->vi y)(hsn:y.st.n<=9223372036854775807)(hA:ApL F a)(hB:ApL F b):Qb prog 3 [y.v,a.1.v,b.1.v] w F (.bool true):=by
 have hnl:=hy.AL;refine QU.intro (G:=λF=>JG F/\Yl F y/\ApL F a/\ApL F b) func3 rfl wy rfl rfl hF (λF' hF'=>⟨hGl.le hF',hy.le hF',hA.le hF',hB.le hF'⟩)<|QGi<|JE rfl (vs:=[_,_,_]) rfl λb3=>wQ rfl<|QG ?_
 refine X8 [(1,_),(2,_),(3,_)] [(59,.bool (!(lzB y a b)))] wU ?_ ?_
 ·refine QB<|QA (wI I Y3 .here)<|QJ I (λ_ _ f k=>QEU (y:=y) f k.1 k.2.1 hu hsn) λ_=>QA (Jw I)<|QF5 I ?_
  refine Qe (t:=48) rfl (λhb48=>?_) λhb48=>?_
  ·refine wB 12 I ?_;exact JB ⟨rfl,rfl,rfl,(congrArg (λb=>some (Value.bool b)) (by unfold lzB;rw[Bool.not_not,hb48];rfl)),trivial⟩ QGJ tA
  have hn24:y.nm.n<=24:=by
   have h1:=hb48;rw[Bool.not_eq_false',Bool.and_eq_true]at h1;have:=(uW h1.1).1;omega
  refine wB 3 I<|QA (wI I Y3 .here)<|QK I I<|QJ I (λw F hF ⟨⟨hGl,hy,hA,hB⟩,_⟩=>cB (a:=a) hF hGl hy hn24 hA.r hA.x hA.n hA.t hA.l) λ_=>QK I I<|QA (Jw I)<|wB 2 I ?_
  refine Qe (t:=54) rfl (λhb54=>?_) λhb54=>?_
  ·refine wB 6 I ?_;exact JB ⟨rfl,rfl,rfl,(congrArg (λb=>some (Value.bool b)) (by unfold lzB;rw[Bool.not_not,hb48,hb54];rfl)),trivial⟩ QGJ λ_ h=>h.1.1
  refine wB 3 I<|QA (wI I Y3 .here)<|QK I I<|QJ I (λw F hF ⟨⟨⟨hGl,hy,hA,hB⟩,_⟩,_⟩=>cB (a:=b) hF hGl hy hn24 hB.r hB.x hB.n hB.t hB.l) λ_=>QK I I<|QA (Jw I)<|wB 2 I ?_
  exact JB ⟨rfl,rfl,rfl,(congrArg (λb=>some (Value.bool b)) (by unfold lzB;rw[Bool.not_not,hb48,hb54];rfl)),trivial⟩ QGJ λ_ h=>h.1.1.1
 simp only[List.cons_append,List.nil_append];refine QP I (λhc2=>?_) λhc2=>?_
 ·refine QGi<|QJ I (λ_ _ f k=>qS f k.1) λ_=>wQ I<|QT ?_
  exact QHT I I (rfl) w8
 have hg:lzB y a b=true:=by simpa using hc2
 obtain⟨g1,g2,g3,g4⟩:=QFp hg;have hL:Lz y:=QD4 hy g1 g2;have he:y.e=0:=(uW g1).2;have ht:Nb y:=(hu (wk<|(uW g1).1)).t hy he;have hm1:=hL.m1;have hm2:=hL.m2;have hnm:=hL.nm;obtain⟨hpa',hp'⟩:=QBV hL g3;obtain⟨hqa',hq'⟩:=QBV hL g4;obtain⟨P,hP⟩:∃P,JW (J0 a.2)=P:=⟨_,rfl⟩;obtain⟨Q,hQ⟩:∃Q,JW (J0 b.2)=Q:=⟨_,rfl⟩;rw[hP]at hpa' hp';rw[hQ]at hqa' hq';have hpa:=hpa';have hqa:=hqa';have hp:=hp';have hq:=hq';have hbP:=Lp.bq hL hp;have hbQ:=Lp.bq hL hq;have hkv:((y.rs.length+1:Nat):Int)=(y.nm.n:Int)+1:=O;have hv:0<=(y.nm.n:Int)/\(y.nm.n:Int)<=24:=O;obtain⟨A,eA⟩:∃A,Se.cmp (Se.Hi y.rs y.s0) P=A:=⟨_,rfl⟩;obtain⟨B,eB⟩:∃B,Se.cmp (Se.Hi y.rs y.s0) Q=B:=⟨_,rfl⟩;have eC:Se.cmp (Se.Hi y.rs y.s0) (JX (JC P Q))=A*B:=(QEY hL hp hq).trans (by rw[eA,eB]);have hzA:∀k,k<5->Jn (A k)<=1800:=by rw[<-eA];exact(pO hL hp).2.1
 have hzB:∀k,k<5->Jn (B k)<=1800:=by rw[<-eB];exact(pO hL hq).2.1
 have hzC:∀k,k<5->Jn ((A*B) k)<=1800:=by rw[<-eC];exact(QDr hL hp hq).2
 refine QHC 4 I<|QA (QH I WB YR)<|QA (Qh I YR .here .h1)<|QA (Qf I Yf)<|QHB 8 I<|QJ I (λ_ _ f h=>uG (a:=a) (b:=b) (k:=y.rs.length+1) (v:=(y.nm.n:Int)) f h.1 (h.2.2.1.p hpa) (h.2.2.2.p hqa) hkv hv hbP hbQ (QE8 hp hq)) λc68=>QHB 9 I ?_
 refine wB 3 I<|QJ I (λ_ _ f h=>ud (a:=a) (b:=b) (k:=y.rs.length+1) (v:=(y.nm.n:Int)) f h.1.1 (h.1.2.2.1.p hpa) (h.1.2.2.2.p hqa) hkv hv hbP hbQ (QFt hp hq)) λc75=>QHB 9 I<|QA (wI I Y3 .here)<|QF5 I<|QJ I (λ_ _ f k=>kG (c:=a) f k.1.1.1 k.1.1.2.1 ht he hL (k.1.1.2.2.1.p hpa) hbP (QDc hL hp) (QCp hL hp)) λc81=>QHB 9 I ?_
 refine QA (wI I Y3 .here)<|QF5 I<|QJ I (λ_ _ f k=>kG (c:=b) f k.1.1.1.1 k.1.1.1.2.1 ht he hL (k.1.1.1.2.2.2.p hqa) hbQ (QDc hL hq) (QCp hL hq)) λc87=>QHB 9 I<|QA (wI I Y3 .here)<|QF5 I<|QJ I (λ_ _ f k=>kG (c:=c68) f k.1.1.1.1.1 k.1.1.1.1.2.1 ht he hL k.1.1.1.2 (QE8 hp hq) (QFw hL hp hq) (QFh hL hp hq)) λc93=>QHB 9 I<|QA (wI I Y3 .here) ?_
 refine QF5 I<|QJ I (λ_ _ f k=>kG (c:=c75) f k.1.1.1.1.1.1 k.1.1.1.1.1.2.1 ht he hL k.1.1.1.2 (QFt hp hq) (QFv hL hp hq) (QFg hL hp hq)) λc99=>QHB 12 I<|QJ I (λ_ _ f h=>uG (a:=c81) (b:=b) (k:=y.rs.length+1) (v:=(y.nm.n:Int)) f h.1.1.1.1.1.1.1 h.1.1.1.2 (h.1.1.1.1.1.1.2.2.2.p hqa) hkv hv (QDa hL hp) hbQ (bqX hL hp hq)) λc106=>QHB 10 I ?_
 refine wB 2 I<|QJ I (λ_ _ f h=>uG (a:=a) (b:=c87) (k:=y.rs.length+1) (v:=(y.nm.n:Int)) f h.1.1.1.1.1.1.1.1 (h.1.1.1.1.1.1.1.2.2.1.p hpa) h.1.1.1.2 hkv hv hbP (QDa hL hq) (bqY hL hp hq)) λc113=>QHB 12 I<|QJ I (λ_ _ f h=>ud (a:=c106) (b:=c113) (k:=y.rs.length+1) (v:=(y.nm.n:Int)) f h.1.1.1.1.1.1.1.1.1 h.1.2 h.2 hkv hv (bqX hL hp hq) (bqY hL hp hq) (by rw[QDu hL hp hq];exact QD9 hL hp hq)) λc120=>QHB 9 I ?_
 refine wB 3 I<|QJ I (λ_ _ f h=>ud (a:=c81) (b:=c87) (k:=y.rs.length+1) (v:=(y.nm.n:Int)) f h.1.1.1.1.1.1.1.1.1.1 h.1.1.1.1.1.1.2 h.1.1.1.1.1.2 hkv hv (QDa hL hp) (QDa hL hq) (by rw[QEA hL hp hq];exact QD8 hL hp hq)) λc127=>QHB 12 I<|QA (Qm I I O)<|QF5 I<|QA (Qm I I O)<|QF5 I<|QA (Qm I I O)<|QF5 I<|QA (Qm I I O)<|QF5 I<|QA (Qm I I O) ?_
 refine QF5 I<|QA (Qm I I O)<|QF5 I<|QA (Qm I I O)<|QF5 I<|QA (Qm I I O)<|QF5 I<|QA (Qm I I O)<|QA (QN (v:=.bool false) rfl rfl (rfl))<|wB 6 I<|QJ I (λ_ _ f h=>cE (a:=c93) (b:=c120) (k:=y.rs.length+1) f h.1.1.1.1.1.2 h.1.2 O (QD9 hL hp hq) (QDu hL hp hq).symm) λ_=>QK I I<|QA (Jw (b:=true) rfl)<|wB 7 I ?_
 refine QJ I (λ_ _ f h=>cE (a:=c99) (b:=c127) (k:=y.rs.length+1) f h.1.1.1.1.1.2 h.1.2 O (QD8 hL hp hq) (QEA hL hp hq).symm) (λ_=>QK I I<|QA (Jw (b:=true) rfl)<|QHB 3 I<|Xo I<|QHC 4 I<|QA (wI I Y3 .here)<|QF5 I<|QJ I (λ_ _ f k=>xw (c:=a) eA f k.1.1.1.1.1.1.1.1.1.1.1.1.1 k.1.1.1.1.1.1.1.1.1.1.1.1.2.1 ht he hL (k.1.1.1.1.1.1.1.1.1.1.1.1.2.2.1.p hpa) hbP (pO hL hp).1 hzA) λc165=>QHB 9 I<|QA (wI I Y3 .here)<|QF5 I ?_);refine QJ I (λ_ _ f k=>xw (c:=b) eB f k.1.1.1.1.1.1.1.1.1.1.1.1.1.1 k.1.1.1.1.1.1.1.1.1.1.1.1.1.2.1 ht he hL (k.1.1.1.1.1.1.1.1.1.1.1.1.1.2.2.2.p hqa) hbQ (pO hL hq).1 hzB) (λc171=>QHB 9 I<|QA (wI I Y3 .here)<|QF5 I<|QJ I (λ_ _ f k=>xw (c:=c68) eC f k.1.1.1.1.1.1.1.1.1.1.1.1.1.1.1 k.1.1.1.1.1.1.1.1.1.1.1.1.1.1.2.1 ht he hL k.1.1.1.1.1.1.1.1.1.1.1.1.1.2 (QE8 hp hq) (QDr hL hp hq).1 hzC) λc177=>QHB 12 I ?_);refine QA (Qm I I O)<|QF5 I<|QA (Qm I I O)<|QA (QN (v:=.bool false) rfl rfl (rfl))<|wB 4 I<|QA (Qf I K3)<|QK I I<|QA (QN (v:=.bool false) rfl rfl (rfl))<|wB 5 I<|QA (Qf I K3)<|QK I I<|QA (QN (v:=.bool false) rfl rfl (rfl))<|wB 5 I<|QA (Qf I K3) ?_
 refine QK I I<|QA (QN (v:=.bool false) rfl rfl (rfl))<|wB 5 I<|QJ I (λ_ _ f k=>yh f k.1.1.2 hzA) λ_=>wB 3 I<|QJ I (λ_ _ f k=>yh f k.1.1.2 hzB) λ_=>QK I I<|QA (Qm I I O)<|wB 3 I<|QJ I (λ_ _ f k=>yh f k.1.1.2 hzC) λ_=>QK I I<|QA (Qm I I O)<|QK I I<|QA (QN (v:=.bool false) rfl rfl (rfl))<|QHB 3 I ?_
 refine Xo I<|QHC 6 I<|QA (Qf I K3)<|QHB 4 I<|J2 (ι:=NtJ 5) [(1,_),(3,_),(7,_),(28,_),(30,_),(32,_),(213,_)] (λi=>[(214,.int .i64 ((i.i:Nat):Int))]) (λi=>5-i.i) (⟨0,Nat.zero_le _⟩) wY wS λi=>?_
 simp only[List.cons_append,List.nil_append];have hi:=i.le;refine wA 6 I ?_;refine QP I (λhc2=>?_) λhc2=>?_
 ·have hlt:i.i<5:=wk<|QGx hc2
  refine QHC 12 I<|QA (QF (v:=tx (prT A B i.i 0)) I)<|QHB 9 I<|J2 (ι:=NtJ (i.i+1)) [(1,_),(3,_),(7,_),(28,_),(30,_),(32,_),(34,_),(213,_),(214,_)] (λi2=>[(35,tx (prT A B i.i i2.i)),(36,.int .i64 ((i2.i:Nat):Int))]) (λi2=>i.i+1-i2.i) (⟨0,Nat.zero_le _⟩) we wT λi2=>?_
  simp only[List.cons_append,List.nil_append];have hi2:=i2.le;refine wA 8 I ?_;refine QP I (λhc2=>?_) λhc2=>?_
  ·have hle2:i2.i<=i.i:=wk<|QGx hc2
   refine QHC 4 I<|JL QGJ mixed wm<|QL (QC I)<|QL (QC I)<|QL (QC I)<|QL (Q2 (n:=5) (i2.i) (λF h9=>h9.1.1.1.1.1.2) rfl rfl K3 Jk O)<|QL (Qz (n:=5) ((i2.i)*1) (λF h9=>h9.1.1.1.1.1.2) O I Jk (ZD (f:=tx) (l:=Mq A 4) (by rw[N1];omega)))<|QL (QC I)<|QL (QC I)<|QL (QC I)<|QL (J1 I I O) ?_
   rw[show((i.i:Int)-(i2.i:Int))=((i.i-i2.i:Nat):Int)from by omega];refine QL (Q2 (n:=5) ((i.i-i2.i)) (λF h9=>h9.1.1.1.1.2) rfl rfl K3 Jk O)<|QL (Qz (n:=5) (((i.i-i2.i))*1) (λF h9=>h9.1.1.1.1.2) O I Jk (ZD (f:=tx) (l:=Mq B 4) (by rw[N1];omega)))<|Qc I (λ_ _ f k=>QCy (A:=A) (B:=B) f hzA hzB O hle2) λ_=>Qc I (λ_ _ f k=>QCz (A:=A) (B:=B) f hzA hzB O hle2) λ_=>QL (QF I)<|Q3<|Qi<|QHD 3 I<|QA (Qm I I O)<|wB 2 I ?_
   exact Qj (⟨i2.i+1,O⟩) (by show i.i+1-(i2.i+1)<i.i+1-i2.i;omega) wi QGJ λF h=>h.1.1
  have hge2:i2.i=i.i+1:=wk<|QGy hc2
  refine Qv ?_
  repeat first|refine QV ?_|refine QQ wy ?_
  refine QW<|QHD 6 I<|QA (Q2 (n:=5) i.i (λF h9=>h9.1.1.1.2) rfl rfl K3 Jk O)<|QA (Qz (n:=5) ((i.i)*1) (λF h9=>h9.1.1.1.2) O I Jk (ZD (f:=tx) (l:=Mq (A*B) 4) (by rw[N1];omega))) ?_
  rw[show prT A B i.i i2.i=el (Mq (A*B) 4) i.i from by rw[hge2,QCx,ya _ O]];refine QA (QN (v:=.bool false) rfl rfl (QGO _))<|QF4<|Xo I<|QM<|Qi<|QD<|QB<|QA (Qm I I O)<|wB 2 I ?_
  exact Qj (⟨i.i+1,hlt⟩) (by show 5-(i.i+1)<5-i.i;omega) wZ QGJ w9
 refine Qv ?_
 repeat first|refine QV ?_|refine QQ wy ?_
 refine QW<|QHD 4 I<|QA (QH I WB YR)<|QA (Qh I YR .here .h1)<|QA (Qf I Yf)<|QHB 4 I<|J2 (ι:=Gg y.nl λs=>!(s==[102,117,114,116,104,101,114])) [(1,_),(3,_),(7,_),(28,_),(244,_)] (λi3=>[(245,.int .i64 ((i3.i:Nat):Int))]) (λi3=>y.nl.length-i3.i) (Gg.start _ _) wW wS λi3=>?_
 simp only[List.cons_append,List.nil_append];have hi3:=i3.le;refine wA 6 I ?_;refine QP I (λhc2=>?_) λhc2=>?_
 ·have hlt3:i3.i<y.nl.length:=wk<|QGx hc2
  refine QHC 12 I<|QA (QH I WB YR)<|QA (Qh I YR .here .h1)<|QF5 I<|QA (Q2 (n:=y.nm.n) (i3.i) (λF h9=>h9.1.1.1.1.1.1.1.1.1.1.1.1.1.1.1.1.1.1.2.1.nm) rfl rfl Yf Hx O)<|QA (Qz (n:=y.nm.n) ((i3.i)*1) (λF h9=>h9.1.1.1.1.1.1.1.1.1.1.1.1.1.1.1.1.1.1.2.1.nm) O I Hx (ZD (f:=tx) (l:=y.nl) O))<|QA (Y6 I I)<|QE<|QD ?_
  refine QP I (λhc2=>?_) λhc2=>?_
  ·refine QGi<|QJ I (λ_ _ f k=>qS f k.1.1.1.1.1.1.1.1.1.1.1.1.1.1.1.1.1.1.1) λ_=>wQ I<|QT ?_
   repeat first|refine Qw ?_|refine Qp ?_
   exact QHT I I (rfl) w8
  have h253:=hc2;refine QM<|Qi<|QD<|QB<|QA (Qm I I O)<|wB 2 I ?_
  exact Qj (i3.next hlt3 (by rw[h253];rfl)) (by show y.nl.length-(i3.i+1)<y.nl.length-i3.i;omega) wX QGJ w9
 have hge3:y.nl.length<=i3.i:=wk<|QGy hc2
 have hnf:=i3.stop hge3;have hnc:¬ [102,117,114,116,104,101,114]∈y.nl:=λhm=>by
  have:=(List.all_eq_true.1 hnf) _ hm;simp at this
 refine Qv ?_
 repeat first|refine QV ?_|refine QQ wy ?_
 refine QW<|QD<|QGi<|QA (wI I Y3 .here)<|QF5 I<|QJ I (λ_ _ f k=>QE2 (a:=a) (P:=P) (s:=[102,117,114,116,104,101,114]) f k.1.1.1.1.1.1.1.1.1.1.1.1.1.1.1.1.1.1.1 k.1.1.1.1.1.1.1.1.1.1.1.1.1.1.1.1.1.1.2.1 ht he hL hp (k.1.1.1.1.1.1.1.1.1.1.1.1.1.1.1.1.1.1.2.2.1.p hpa) wu wu hnc) λc259=>wB 3 I<|Qg pC λb38=>QZ (vs:=[_,_,_]) I I I Y3 I .here .h3 wU<|QHB 5 I<|QA (wI I Y3 .u1)<|QJ I (λ_ _ f k=>QA6 (y:=y) (n:=y.nm.n) (X:=xS y P) f k.1.1.1.1.1.1.1.1.1.1.1.1.1.1.1.1.1.1.1.1 k.1.1.1.1.1.1.1.1.1.1.1.1.1.1.1.1.1.1.1.2.1 ht he hL.sys I λv hv=>(QFa O).symm) λc264=>JN _ (λ_ _ f k=>k.2.len) λl264=>wB 5 I ?_
 refine QF4<|QGi<|QA (wI I Y3 .here)<|QJ I (λ_ _ f k=>QA6 (y:=c259) (n:=y.nm.n+1) (X:=xS y P) f k.1.1.1.1.1.1.1.1.1.1.1.1.1.1.1.1.1.1.1.1.1 k.1.2.r k.1.2.t k.1.2.e k.1.2.s k.1.2.n k.1.2.x) λc269=>JN _ (λ_ _ f k=>k.2.len) λl269=>QHB 12 I<|QA (Qm I I O)<|QF5 I<|QA (Qm I I O)<|QA (QN (v:=.bool false) rfl rfl (rfl))<|wB 2 I ?_
 refine wB 2 I<|QA (Qf I Ua)<|wB 3 I<|QA (QN (v:=.bool false) rfl rfl (Oo _))<|wB 5 I<|QA (Qf I Ua)<|wB 3 I<|QA (Qm I I O) ?_
 rw[show((y.nm.n:Int)+1)=((y.nm.n+1:Nat):Int)from by omega];refine QK I I<|QA (QN (v:=.bool false) rfl rfl (Oo _))<|wB 7 I<|QA (Q2 (n:=(y.nm.n+1)) (y.nm.n) (λF h9=>h9.2.row) rfl rfl Ua Rt O)<|QK I I<|QA (Qz (n:=(y.nm.n+1)) ((y.nm.n)*1) (λF h9=>h9.2.row) O I Rt (ZD (f:=Sr.v) (l:=c269.2) O))<|wB 3 I<|QJ I (λ_ _ f k=>cF (ra:=el c269.2 y.nm.n) (rb:=⟨c165.q,5,c165.cap⟩) f (k.2.at_ y.nm.n O).1 (k.2.at_ y.nm.n O).2 k.1.1.1.1.1.1.1.1.2 I (by rw[hnm];exact QFb.trans eA)) λ_=>QK I I<|QA (Jw (b:=true) rfl)<|QHB 3 I<|Xo I<|QHC 3 I ?_
 refine wR I<|QA (Qf I Ua)<|QHB 4 I<|J2 (ι:=NtJ y.nm.n) [(40,_),(42,_),(301,_)] (λi4=>[(302,.int .i64 ((i4.i:Nat):Int))]) (λi4=>y.nm.n-i4.i) (⟨0,Nat.zero_le _⟩) wU wS λi4=>?_
 simp only[List.cons_append,List.nil_append];have hi4:=i4.le;refine wA 6 I ?_;refine QP I (λhc2=>?_) λhc2=>?_
 ·have hlt4:i4.i<y.nm.n:=wk<|QGx hc2
  refine QHC 11 I<|JL QGJ mixed wm<|QL (QC I)<|QL (QC I)<|QL (Q2 (n:=y.nm.n) (i4.i) (λF h9=>h9.1.1.2.row) rfl rfl Ua Rt O)<|QL (Qz (n:=y.nm.n) ((i4.i)*1) (λF h9=>h9.1.1.2.row) O I Rt (ZD (f:=Sr.v) (l:=c264.2) O))<|QL (QC I)<|QL (QC I)<|QL (Q2 (n:=(y.nm.n+1)) (i4.i) (λF h9=>h9.1.2.row) rfl rfl Ua Rt O)<|QL (Qz (n:=(y.nm.n+1)) ((i4.i)*1) (λF h9=>h9.1.2.row) O I Rt (ZD (f:=Sr.v) (l:=c269.2) O))<|Qc I (λ_ _ f k=>cF (ra:=el c264.2 i4.i) (rb:=el c269.2 i4.i) f (k.1.1.2.at_ i4.i O).1 (k.1.1.2.at_ i4.i O).2 (k.1.2.at_ i4.i O).1 (k.1.2.at_ i4.i O).2 rfl) λ_=>QL (Jw (b:=true) rfl)<|Q3<|QD<|Xo I ?_
  refine QM<|Qi<|QD<|QB<|QA (Qm I I O)<|wB 2 I ?_
  exact Qj (⟨i4.i+1,hlt4⟩) (by show y.nm.n-(i4.i+1)<y.nm.n-i4.i;omega) wV QGJ tA
 refine Qv ?_
 repeat first|refine QV ?_|refine QQ wy ?_
 refine QW<|QD<|QGi<|QJ I (λ_ _ f k=>qS f k.1.1.1.1.1.1.1.1.1.1.1.1.1.1.1.1.1.1.1.1.1.1.1) λ_=>wQ I<|QT ?_
 exact QHT I I (rfl) w8
section
open Go.RowKit Go.ChangeShapes Go.WideShapes Ig
section
variable{H:Type}{enc:TypeId×Value->H}{w:World}
set_option maxRecDepth 100000 in
theorem gH(n:Nat)(cs:List Value)(x:DataW H×List MemPlace)(h:DataW.trod enc prog w 0 (λ_=>true) true n 56 cs=some x):∃y:List UInt8×List UInt8,cs=Ny y/\y.1.length<=9223372036854775807/\y.2.length<=9223372036854775807:=by
 obtain⟨yz0,y1,m,_,hl,h0,h1⟩:=trod_struct2 underlying56 h;have c2:prog.cellsOf 56=2:=wm;have c1:prog.cellsOf 41=1:=wm;rw[c2]at hl
 match cs,hl with
 |[a,b],_ =>
  dsimp only at h0 h1;rw[c1]at h0 h1;obtain⟨lo,rfl,g0⟩:=yS ux (v:=a) h0;obtain⟨hi,rfl,g1⟩:=yS ux (v:=b) h1;exact⟨(lo,hi),rfl,g0,g1⟩
set_option maxRecDepth 100000 in
theorem QAK{v:Value}{d:DataW H}{p:List MemPlace}(hv:Value.okWide prog w .any b 26 v)(h:DataW.Trod enc prog w 0 (λ_=>true) true 26 v d p):∃y:Zh,v=y.v/\Yl (Vc w) y/\(y.nm.n<=24->vi y)/\y.st.n<=9223372036854775807:=by
 obtain⟨v0,v1,v2,yz0,y1,y2,n,rfl,_,_,h0,h1,h2⟩:=Joins.open_agg3 underlying26 wm wm hv h;obtain⟨q0,n0,c0,nl,e0,a1,a2,a3,a4,a5⟩:=Nc (cs:=[v0]) (f:=λy=>[tx y]) (Q:=λy=>y.length<=9223372036854775807) underlying22 (show prog.cellsOf 9=1 by kernel_rfl) wu (λ_=>rfl) pE h0;obtain⟨q1,n1,c1,rl,e1,b1,b2,b3,b4,b5⟩:=Nc (cs:=[v1]) (f:=λa:K8=>[a.1.v]) (Q:=λa=>(Qy (Vc w) a.1.q a.1.n 2 (a.2.flatMap KI)/\Zz (Vc w) a.2)/\a.2.length=a.1.n/\QF9 a.1.n/\∀t∈a.2,uo t) underlying23 (show prog.cellsOf 28=1 by kernel_rfl) wu (λ_=>rfl) ph h1;obtain⟨q2,n2,c2,sl,e2,s1,s2,s3,s4,s5⟩:=Nc (cs:=[v2]) (f:=Ny) (Q:=λy=>y.1.length<=9223372036854775807/\y.2.length<=9223372036854775807) underlying24 (show prog.cellsOf 56=2 by kernel_rfl) wu (λ_=>rfl) gH h2;obtain rfl:=(List.cons.inj e0).1;obtain rfl:=(List.cons.inj e1).1;obtain rfl:=(List.cons.inj e2).1;rw[QDT]at a1;rw[QBg]at b1;exact⟨⟨⟨q0,n0,c0⟩,nl,⟨q1,n1,c1⟩,rl,⟨q2,n2,c2⟩,sl⟩,rfl,⟨a1,b1,λe he=>(b4 e he).1,s1,a2,b2,s2⟩,λh24=>⟨by have h25:n0<=24:=h24;show n0<=1000000;omega,a5,a4,b3,λe he=>⟨(b4 e he).2.1,λt ht=>(b4 e he).2.2.2 t ht,by rw[(b4 e he).2.1];exact(b4 e he).2.2.1⟩,s3,λs hs=>s4 s hs⟩,s3⟩
set_option maxRecDepth 100000 in
theorem je{v:Value}{d:DataW H}{p:List MemPlace}(hv:Value.okWide prog w .any b 28 v)(h:DataW.Trod enc prog w 0 (λ_=>true) true 28 v d p):∃a:K8,v=a.1.v/\ApL (Vc w) a:=by
 obtain⟨a,e,h1,h2,h3⟩:=QAL hv h;exact⟨a,e,h1.1,h1.2.1,h1.2.2.2.1,h1.2.2.2.2,h2,by rw[h1.2.2.2.2];exact h3⟩
end
end
end Go.Proofs.YtpmehagnedbkhaaGreatDoor
