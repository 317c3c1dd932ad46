/- Steps of the proof of the theorem in the last file. -/
import Derived.Test.YtpmehagnedbkhaaGreatDoorP1
set_option linter.all false
set_option maxHeartbeats 4000000
open Go.Proofs.Tryz
namespace Go.Proofs.YtpmehagnedbkhaaGreatDoor
variable{α ι:Type}{N c i k n:Nat}{s:List UInt8}{x y:Operand}{a b l o out u:List Int}{w:World}{F:Gs}{q:Option Addr}{d z zx:Int}{g:Bool}{ob:List (Nat×Obj)}{cs rest:List Value}{Q:Exit->Act->World->Prop}{m:Sl}{ra rb:Sr}{yT:TypeId}
open Go.RowKit Ig
def XR(s:Rat×Rat)(x:Rat):Rat×Rat:=(if Wx x s.1<0 then x else s.1,if Wx x s.2>0 then x else s.2)
def YK(r:Rat)(l:List Rat):Rat×Rat:=l.foldl XR (r,r)
def B6(x:Fr):List Value:=[.int .i64 x.n.s,.slice x.n.q x.n.n x.n.cap,.int .i64 x.d.s,.slice x.d.q x.d.n x.d.cap]
def Ti{f:α->List Value}(hf:∀x,(f x).length=k):∀(l:List α) (i j:Nat) (h:i<l.length),j<k->(l.flatMap f)[i*k+j]?=(f l[i])[j]?
 |[],_,_,h,_=>by simp at h
 |x::l,0,j,_,hj=>by
  rw[List.flatMap_cons,Nat.zero_mul,Nat.zero_add,List.getElem?_append,if_pos (by rw[hf];exact hj)];rfl
 |x::l,i+1,j,h,hj=>by
  rw[List.flatMap_cons,List.getElem?_append,if_neg (by rw[hf,Nat.add_mul];omega),hf];have:=Ti hf l i j (by simpa using h) hj;rw[show(i+1)*k+j-k=i*k+j by rw[Nat.add_mul];omega,this];rfl
def qJ{s:Rat×Rat}{x:Rat}(h:Jn s.1<=k/\Jn s.2<=k)(hx:Jn x<=k):Jn (XR s x).1<=k/\Jn (XR s x).2<=k:=by
 unfold XR;refine⟨?_,?_⟩
 ·show Jn (if _ then _ else _)<=k;split
  ·exact hx
  exact h.1
 show Jn (if _ then _ else _)<=k;split
 ·exact hx
 exact h.2
theorem Su:∀(l:List Rat) (s:Rat×Rat),(Jn s.1<=k/\Jn s.2<=k)->(∀x∈l,Jn x<=k)->Jn (l.foldl XR s).1<=k/\Jn (l.foldl XR s).2<=k
 |[],_,h,_=>h
 |x::l,s,h,hx=>Su l (XR s x) (qJ h (hx x wz)) λy hy=>hx y (by simp[hy])
structure uw(n:Nat)(l:List Rat)(r:Rat×Rat) where
 i:Nat
 x:Sp
 s:Rat×Rat
 le:i<=n
 h:s=(l.take i).foldl XR r
def Ry{l:List Rat}(hi:i<l.length)(r:Rat×Rat):(l.take (i+1)).foldl XR r=XR ((l.take i).foldl XR r) l[i]:=by
 rw[List.take_succ_eq_append_getElem hi,List.foldl_append];rfl
theorem Ku{x:Fr}{r:Rat}{ps:List (Fr×Rat)}(hF:Fits F w)(h:Jz F x r)(hR:Qy F q n 4 (ps.flatMap λp=>B6 p.1))(hP:∀p∈ps,Jz F p.1 p.2)(hn:ps.length=n)(hb:n<=1000000)(hz:Jn r<=50000000/\∀p∈ps,Jn p.2<=50000000):
  Wy prog 174 [x.v,.slice q n c] w F (YK r (ps.map (·.2))):=by
 have hzl:∀y∈ps.map (·.2),Jn y<=50000000:=λy hy=>by obtain⟨p,hp,rfl⟩:=List.mem_map.1 hy;exact hz.2 p hp
 have hml:(ps.map (·.2)).length=n:=by simpa using hn
 refine QU.intro (G:=λF=>Jz F x r/\Qy F q n 4 (ps.flatMap λp=>B6 p.1)/\(∀p∈ps,Jz F p.1 p.2)) func174 rfl wy rfl rfl hF (λF' hF'=>⟨h.le hF',hR.le hF',λp hp=>(hP p hp).le hF'⟩)<|QGi<|JE rfl (vs:=[_,_,_,_]) rfl λb2=>Qg VI λb4=>QF4<|QGi<|QA (wJ I Ql .u1)<|QA (wJ I Ql .u1)<|QA (XL rfl IH VI (.cons (vs:=[_,_,_,_]) rfl rfl rfl .h4 (.cons (vs:=[_,_,_,_]) rfl rfl rfl (.skip (.skip (.skip (.skip .h4)))) .nil)))<|Qg VI λb5=>QZ (vs:=[_,_,_,_,_,_,_,_]) rfl rfl rfl XM rfl .here .h8 wZ<|QF4<|QG<|wR rfl<|QA (Qf rfl X4)<|QF5 rfl<|QF4<|QS ?_
 refine Xf (ι:=uw n (ps.map (·.2)) (r,r)) (λi=>[(4,.pointer (some ⟨b4,0,none⟩)),(5,.pointer (some ⟨b5,0,none⟩)),(11,.slice q n c),(12,.int .i64 n),(13,.int .i64 i.i)]) (λi=>[(b5,.cells #[.int .i64 i.x.lo.n.s,.slice i.x.lo.n.q i.x.lo.n.n i.x.lo.n.cap,.int .i64 i.x.lo.d.s,.slice i.x.lo.d.q i.x.lo.d.n i.x.lo.d.cap,.int .i64 i.x.hi.n.s,.slice i.x.hi.n.q i.x.hi.n.n i.x.hi.n.cap,.int .i64 i.x.hi.d.s,.slice i.x.hi.d.q i.x.hi.d.n i.x.hi.d.cap] 229 (0,0)),(b4,.cells #[.int .i64 0,.slice none 0 0,.int .i64 0,.slice none 0 0,.int .i64 0,.slice none 0 0,.int .i64 0,.slice none 0 0] 229 (0,0))]) (λi F=>Zp F i.x i.s/\Qy F q n 4 (ps.flatMap λp=>B6 p.1)/\(∀p∈ps,Jz F p.1 p.2)) (λi=>n-i.i)
   ⟨0,⟨x,x⟩,(r,r),Nat.zero_le _,rfl⟩ wW (.cons_cons _ (.cons_cons _ (.cons _ QGJ))) (λF ⟨hX,hR,hP⟩=>⟨⟨hX,hX⟩,hR,hP⟩) λi=>?_
 have hle:=i.le;have hsi:Jn i.s.1<=50000000/\Jn i.s.2<=50000000:=by rw[i.h];exact Su _ _ ⟨hz.1,hz.1⟩ λy hy=>hzl y (List.mem_of_mem_take hy)
 refine wA 6 I ?_;refine QP I (λhc=>?_) λhc=>?_
 ·have hi:i.i<n:=by simp at hc;omega
  have hil:i.i<ps.length:=O;have hzi:=hz.2 _ (List.getElem_mem hil);refine Xe _ (λ_ _ f h=>h.2.1.ptr O) (λhq=>?_);obtain⟨qb,qo,rfl⟩:=hq;refine QHC 6 I<|QA (Qx I I X4 Ql hi) ?_
  refine QA (EJ (vs:=B6 ps[i.i].1) rfl Ql (λF h=>h.2.1) O rfl λj v hv=>by rw[Ti (f:=λp:Fr×Rat=>B6 p.1) (k:=4) (λ_=>rfl) ps i.i j hil (by rcases Nat.lt_or_ge j 4 with g | g;exact g;rw[List.getElem?_eq_none (by simpa[B6]using g)]at hv;cases hv)];exact hv) ?_;refine Qg KM (λb7=>QZ (vs:=[_,_,_,_]) I I I Ql I .here .h4 wV<|QE<|QD ?_);refine GO (ι:=Fr) (λ_=>[(4,.pointer (some ⟨b4,0,none⟩)),(5,.pointer (some ⟨b5,0,none⟩)),(7,.pointer (some ⟨b7,0,none⟩)),(11,.slice (some ⟨qb,qo,none⟩) n c),(12,.int .i64 n),(13,.int .i64 i.i)]) (λy=>(b7,.cells #[.int .i64 ps[i.i].1.n.s,.slice ps[i.i].1.n.q ps[i.i].1.n.n ps[i.i].1.n.cap,.int .i64 ps[i.i].1.d.s,.slice ps[i.i].1.d.q ps[i.i].1.d.n ps[i.i].1.d.cap] 95 (0,0))::[(b5,.cells #[.int .i64 y.n.s,.slice y.n.q y.n.n y.n.cap,.int .i64 y.d.s,.slice y.d.q y.d.n y.d.cap,.int .i64 i.x.hi.n.s,.slice i.x.hi.n.q i.x.hi.n.n i.x.hi.n.cap,.int .i64 i.x.hi.d.s,.slice i.x.hi.d.q i.x.hi.d.n i.x.hi.d.cap] 229 (0,0)),(b4,.cells #[.int .i64 0,.slice none 0 0,.int .i64 0,.slice none 0 0,.int .i64 0,.slice none 0 0,.int .i64 0,.slice none 0 0] 229 (0,0))])
    (λy F=>Zp F ⟨y,i.x.hi⟩ (if Wx ps[i.i].2 i.s.1<0 then ps[i.i].2 else i.s.1,i.s.2)/\Qy F (some ⟨qb,qo,none⟩) n 4 (ps.flatMap λp=>B6 p.1)/\(∀p∈ps,Jz F p.1 p.2)) ?_ ?_
  ·refine QGi<|QA (wJ I Ql .here)<|QA (QH I YI Ql)<|QA (wJ I Ql .u1)<|QJ I (λ_ _ f k=>Ie (x:=ps[i.i].1) (y:=i.x.lo) (r:=ps[i.i].2) (s:=i.s.1) f (k.2.2 _ (List.getElem_mem hil)) k.1.1 O O) λ_=>QHB 3 I ?_
   refine QP I (λhc21=>?_) λhc21=>?_
   ·refine QB<|QA (wJ I Ql .here)<|QA (QH I YI Ql)<|QZ (vs:=[_,_,_,_]) I I I Ql I .u1 .h4 wV<|QE ?_
    exact Xj ps[i.i].1 wX QGJ λF ⟨⟨hS,hR,hP⟩,_⟩=>⟨⟨by show Jz F _ (if _ then _ else _);rw[if_pos (QGx hc21)];exact hP _ (List.getElem_mem hil),hS.2⟩,hR,hP⟩
   refine QM ?_;exact Xj i.x.lo wX QGJ λF ⟨⟨hS,hR,hP⟩,_⟩=>⟨⟨by show Jz F _ (if _ then _ else _);rw[if_neg (QGy hc21)];exact hS.1,hS.2⟩,hR,hP⟩
  intro xg5;refine QGi<|QA (wJ I Ql .here)<|QA (QH I YZ Ql)<|QA (wL I Ql .u1)<|QJ I (λ_ _ f k=>Ie (x:=ps[i.i].1) (y:=i.x.hi) (r:=ps[i.i].2) (s:=i.s.2) f (k.2.2 _ (List.getElem_mem hil)) k.1.2 O O) λ_=>QHB 3 I ?_
  refine QP I (λhc28=>?_) λhc28=>?_
  ·refine QB<|QA (wJ I Ql .here)<|QA (QH I YZ Ql)<|QZ (vs:=[_,_,_,_]) I I I Ql I .u1 (.skip (.skip (.skip (.skip .h4)))) wV<|QE<|Qi<|QD<|QB<|QA (Qm I I O)<|wB 2 I ?_
   exact Qj (⟨i.i+1,⟨xg5,ps[i.i].1⟩,XR i.s ps[i.i].2,O,by rw[Ry O,<-i.h,List.getElem_map]⟩:uw n (ps.map (·.2)) (r,r)) (by show n-(i.i+1)<n-i.i;omega) wW (.cons _ QGJ) λF ⟨⟨hS,hR,hP⟩,_⟩=>⟨⟨hS.1,by show Jz F _ (if _ then _ else _);rw[if_pos (QGx hc28)];exact hP _ (List.getElem_mem hil)⟩,hR,hP⟩
  refine QM<|Qi<|QD<|QB<|QA (Qm I I O)<|wB 2 I ?_
  exact Qj (⟨i.i+1,⟨xg5,i.x.hi⟩,XR i.s ps[i.i].2,O,by rw[Ry O,<-i.h,List.getElem_map]⟩:uw n (ps.map (·.2)) (r,r)) (by show n-(i.i+1)<n-i.i;omega) wW (.cons _ QGJ) λF ⟨⟨hS,hR,hP⟩,_⟩=>⟨⟨hS.1,by show Jz F _ (if _ then _ else _);rw[if_neg (QGy hc28)];exact hS.2⟩,hR,hP⟩
 refine Qv ?_
 repeat first|refine QV ?_|refine QQ wy ?_
 refine QW<|QD<|QGi<|QA (wK I XM .here)<|QZ (vs:=[_,_,_,_,_,_,_,_]) I I I XM I .u1 .h8 wZ<|QF4<|QT ?_
 exact QO (i.x) rfl (.Jv (c:=[_,_,_,_,_,_,_,_]) I XM .u1 .nil) rfl λF h=>by have e:=i.h;rw[List.take_of_length_le (by simp at hc;omega)]at e;show Zp F i.x (List.foldl XR (r,r) _);rw[<-e];exact h.1
theorem yU{x y:Sp}{a b:Rat×Rat}(hF:Fits F w)(h:Zp F x a)(h':Zp F y b)(ha:Jn a.1<=100000000/\Jn a.2<=100000000)(hb:Jn b.1<=100000000/\Jn b.2<=100000000):Wy prog 178 [x.v,y.v] w F (a.1+b.1,a.2+b.2):=by
 refine QU.intro (G:=λF=>Zp F x a/\Zp F y b) func178 rfl wy rfl rfl hF (λF' hF'=>⟨h.le hF',h'.le hF'⟩)<|QGi<|JE rfl (vs:=[_,_,_,_,_,_,_,_]) rfl λb2=>JE rfl (vs:=[_,_,_,_,_,_,_,_]) rfl λb3=>Qg VI λb4=>QF4<|QG<|JL (.cons _ tC) mixed wm<|QL (QH rfl YI Ql)<|QL (wJ I Ql .u1)<|QL (QH rfl YI Ql)<|QL (wJ I Ql .here)<|Qc rfl (λ_ _ f k=>Pj (x:=x.lo) (y:=y.lo) f k.1.1 k.2.1 ha.1 hb.1) λx9=>QL (QH rfl YZ Ql)<|QL (wL I Ql .u1)<|QL (QH rfl YZ Ql)<|QL (wL I Ql .here)<|Qc rfl (λ_ _ f k=>Pj (x:=x.hi) (y:=y.hi) f k.1.1.2 k.1.2.2 ha.2 hb.2) λx14=>QL (XL rfl IH VI (.cons (vs:=[_,_,_,_]) rfl rfl rfl .h4 (.cons (vs:=[_,_,_,_]) rfl rfl rfl (.skip (.skip (.skip (.skip .h4)))) .nil)))<|Ji (vs:=[_,_,_,_,_,_,_,_]) rfl rfl rfl XM rfl .here tC (λ_ h=>h.1.1) .h8 wZ<|Q3<|QD<|QT ?_
 exact QO (⟨x9,x14⟩:Sp) rfl (.Jv (c:=[_,_,_,_,_,_,_,_]) I XM .here .nil) rfl λF ⟨⟨⟨hA,hB⟩,⟨h9,h9_⟩⟩,⟨h14,h14_⟩⟩=>⟨⟨h9,h9_⟩,⟨h14,h14_⟩⟩
def Z5(a b:Rat×Rat):Rat×Rat:=YK (a.1*b.1) [a.1*b.2,a.2*b.1,a.2*b.2]
theorem qd{x y:Sp}{a b:Rat×Rat}(hF:Fits F w)(h:Zp F x a)(h':Zp F y b)(ha:Jn a.1<=20000000/\Jn a.2<=20000000)(hb:Jn b.1<=20000000/\Jn b.2<=20000000):Wy prog 175 [x.v,y.v] w F (Z5 a b):=by
 have z1:=KO a.1 b.1;have z2:=KO a.1 b.2;have z3:=KO a.2 b.1;have z4:=KO a.2 b.2;refine QU.intro (G:=λF=>Zp F x a/\Zp F y b) func175 rfl wy rfl rfl hF (λF' hF'=>⟨h.le hF',h'.le hF'⟩)<|QGi<|JE rfl (vs:=[_,_,_,_,_,_,_,_]) rfl λb2=>JE rfl (vs:=[_,_,_,_,_,_,_,_]) rfl λb3=>Qg VI λb4=>QF4<|QG<|JL (.cons _ tC) mixed wm<|QL (QH rfl YI Ql)<|QL (wJ I Ql .u1)<|QL (QH rfl YI Ql)<|QL (wJ I Ql .here)<|Qc rfl (λ_ _ f k=>Gc (x:=x.lo) (y:=y.lo) f k.1.1 k.2.1 O O) λx9=>QL (QH rfl YI Ql)<|QL (wJ I Ql .u1)<|QL (QH rfl YZ Ql)<|QL (wL I Ql .here)<|Qc rfl (λ_ _ f k=>Gc (x:=x.lo) (y:=y.hi) f k.1.1.1 k.1.2.2 O O) λx14=>QL (QH rfl YZ Ql)<|QL (wL I Ql .u1)<|QL (QH rfl YI Ql)<|QL (wJ I Ql .here)<|Qc rfl (λ_ _ f k=>Gc (x:=x.hi) (y:=y.lo) f k.1.1.1.2 k.1.1.2.1 O O) λx19=>?_
 refine QL (QH I YZ Ql)<|QL (wL I Ql .u1)<|QL (QH I YZ Ql)<|QL (wL I Ql .here)<|Qc I (λ_ _ f k=>Gc (x:=x.hi) (y:=y.hi) f k.1.1.1.1.2 k.1.1.1.2.2 O O) λx24=>?_
 refine Jd I (JU X4) Ql KM I I (λb25=>?_) (λw h=>h.imp (.cons _ QGJ) λF h=>h.1.1.1.1);refine Qc I (λw F hF ⟨⟨⟨⟨⟨⟨hA,hB⟩,⟨h9,h9_⟩⟩,⟨h14,h14_⟩⟩,⟨Ff,h19_⟩⟩,⟨h24,h24_⟩⟩,hs25⟩=>Ku (ps:=[(x14,a.1*b.2),(x19,a.2*b.1),(x24,a.2*b.2)]) hF ⟨h9,h9_⟩ (Qy.of (cs:=List.flatMap (λp=>B6 p.1) [(x14,a.1*b.2),(x19,a.2*b.1),(x24,a.2*b.2)]) hs25 rfl) (λp hp=>by
  simp only[List.mem_cons,List.not_mem_nil,or_false]at hp;rcases hp with rfl | rfl | rfl
  ·exact⟨h14,h14_⟩
  ·exact⟨Ff,h19_⟩
  ·exact⟨h24,h24_⟩) I wu ⟨O,λp hp=>by
  simp only[List.mem_cons,List.not_mem_nil,or_false]at hp;rcases hp with rfl | rfl | rfl<;>dsimp only<;>omega⟩) λx26=>?_
 refine Ji (vs:=[_,_,_,_,_,_,_,_]) I I I XM I .here tC (λ_ h=>h.1.1.1.1.1.1) .h8 wZ<|Q3<|QD<|QT ?_
 exact QO (x26) rfl (.Jv (c:=[_,_,_,_,_,_,_,_]) I XM .here .nil) rfl tB
section
variable[Dr][df:Df]{P:Program}{Q:Exit->Act->World->Prop}{N:Nat}{m:Sl}{ops:Array Oper}{l:List Oper}{w0:World}{F0:Gs}{bs:List (Nat×Obj)}{G:Gs->Prop}{d:Nat}{ty:TypeId}{pos:String}{aft:Array Edge}
theorem FO{T:TypeId}(hx:ev m x=some (tx s))(hT:Gw P T=true)(k:∀b,JS P ops Q l N ((d,.pointer (some ⟨b,0,none⟩))::m) ⟨w0,F0,(b,.stringIter ⟨s.toArray⟩ 0)::bs,G⟩)(hd:J6 N (some d)=true:=by rfl):
  JS P ops Q (⟨some d,.range T x,ty,pos,aft,none⟩::l) N m ⟨w0,F0,bs,G⟩:=λa w ha hw=>by
 unfold Gw at hT;split at hT
 ·rename_i hu;have hrun:(execOp a.eval ⟨some d,.range T x,ty,pos,aft,none⟩).run P w = .ok (.value (.pointer (some ⟨w.heap.size,0,none⟩))) (w.alloc (.stringIter ⟨s.toArray⟩ 0)):=by
   simp[execOp,ha.ev hx,Instr.range,run_underlying hu,run_newObj,tx]
  exact wpList_plain rfl λK hK=>upon_value hrun (hK _ _ (k _ _ _ (ha.put hd _) (hw.alloc _ λc fr e=>by cases e)))
 cases hT
theorem I1{b p:Nat}{f:Obj->List (Nat×Obj)}(hx:ev m x=some (.pointer (some ⟨b,0,none⟩)))(ho:Own bs b (.stringIter ⟨s.toArray⟩ p) f)(hp:p<s.length){c width:Nat}(hdec:Utf8.decode ⟨s.toArray⟩ p=(c,width))
  (k:JS P ops Q l N ((d,.tuple #[.bool true,.int .i64 p,.int .i32 c])::m) ⟨w0,F0,f (.stringIter ⟨s.toArray⟩ (p+width)),G⟩) (hd:J6 N (some d)=true:=by rfl) :
  JS P ops Q (⟨some d,.next x true,ty,pos,aft,none⟩::l) N m ⟨w0,F0,bs,G⟩:=λa w ha hw=>by
 have hb:=hw.own ho;obtain⟨pre,post,e1,e2⟩:=ho.split;subst e1;rw[e2]at k;have hsz:p<(⟨s.toArray⟩:ByteArray).size:=by rw[YW];exact hp
 have hrun:(execOp a.eval ⟨some d,.next x true,ty,pos,aft,none⟩).run P w = .ok (.value (.tuple #[.bool true,.int .i64 p,.int .i32 c])) { w with heap:=w.heap.setIfInBounds b (.stringIter ⟨s.toArray⟩ (p+width)) }:=by
  simp[execOp,ha.ev hx,Instr.next,getObj,setObj,Sem.run,hb,hsz,hdec,goInt]
 exact wpList_plain rfl λK hK=>upon_value hrun (hK _ _ (k _ _ (ha.put hd _) (hw.write pre ⟨rfl,rfl,rfl,rfl,rfl⟩ λc fr e=>by cases e)))
theorem I2{b p:Nat}{f:Obj->List (Nat×Obj)}(hx:ev m x=some (.pointer (some ⟨b,0,none⟩)))(ho:Own bs b (.stringIter ⟨s.toArray⟩ p) f)(hp:s.length<=p)
  (k:JS P ops Q l N ((d,.tuple #[.bool false])::m) ⟨w0,F0,bs,G⟩) (hd:J6 N (some d)=true:=by rfl) :
  JS P ops Q (⟨some d,.next x true,ty,pos,aft,none⟩::l) N m ⟨w0,F0,bs,G⟩:=λa w ha hw=>by
 have hb:=hw.own ho;have hsz:¬p<(⟨s.toArray⟩:ByteArray).size:=by rw[YW];omega
 have hrun:(execOp a.eval ⟨some d,.next x true,ty,pos,aft,none⟩).run P w = .ok (.value (.tuple #[.bool false])) w:=by
  simp[execOp,ha.ev hx,Instr.next,getObj,Sem.run,hb,hsz]
 exact wpList_plain rfl λK hK=>upon_value hrun (hK _ _ (k _ _ (ha.put hd _) hw))
end
theorem decode_high{p:Nat}(hp:p<s.length)(h:¬s[p].toNat<128):128<=(Utf8.decode ⟨s.toArray⟩ p).1:=by
 have h0:((⟨s.toArray⟩:ByteArray).get! (p+0)).toNat=s[p].toNat:=by
  simp[ByteArray.get!,hp]
 unfold Utf8.decode;simp only[h0];rw[if_neg h];split
 ·split
  ·rename_i g;exact g
  decide
 split
 ·split
  ·rename_i g;simp only[Bool.and_eq_true,decide_eq_true_eq]at g;exact Nat.le_trans wu g.1
  decide
 split
 ·split
  ·rename_i g;simp only[Bool.and_eq_true,decide_eq_true_eq]at g;exact Nat.le_trans wu g.1
  decide
 decide
def CI{p:Nat}(hp:p<s.length):∃c width,Utf8.decode ⟨s.toArray⟩ p=(c,width)/\((s[p].toNat<128/\c=s[p].toNat/\width=1)\/(128<=s[p].toNat/\128<=c)):=by
 have h0:((⟨s.toArray⟩:ByteArray).get! (p+0)).toNat=s[p].toNat:=by
  simp[ByteArray.get!,hp]
 by_cases h:s[p].toNat<128
 ·exact⟨_,_,by unfold Utf8.decode;simp only[h0];rw[if_pos h],.inl ⟨h,rfl,rfl⟩⟩
 exact⟨(Utf8.decode ⟨s.toArray⟩ p).1,(Utf8.decode ⟨s.toArray⟩ p).2,rfl,.inr ⟨O,decode_high hp h⟩⟩
def Xz(c:Nat):Bool:=(decide (97<=c)&&decide (c<=122))||(decide (65<=c)&&decide (c<=90))
def ahead(p:UInt8->Bool)(s:List UInt8):Nat:=(s.takeWhile λc=>!p c).length
def Sw{p:UInt8->Bool}(hi:i<s.length)(h:(s.take i).all (λc=>!p c)=true)(hp:p s[i]=true):ahead p s=i:=by
 unfold ahead;have e:s=s.take i++s[i]::s.drop (i+1):=by rw[<-List.drop_eq_getElem_cons hi,List.take_append_drop]
 have hl:(s.take i).length=i:=w6;rw[e,List.takeWhile_append_of_pos (by simpa using h),List.takeWhile_cons];simp[hp];omega
def Sx{p:UInt8->Bool}(h:s.all (λc=>!p c)=true):ahead p s=s.length:=by
 unfold ahead
 induction s with
 |nil=>rfl
 |cons c s ih =>
  simp only[List.all_cons,Bool.and_eq_true]at h;rw[List.takeWhile_cons,if_pos h.1,List.length_cons,ih h.2,List.length_cons]
def BM{p:UInt8->Bool}(hi:i<s.length)(h:(s.take i).all p=true)(hp:p s[i]=true):(s.take (i+1)).all p=true:=by
 rw[List.take_succ_eq_append_getElem hi,List.all_append,h];simp[hp]
def Jx(c:UInt8):Bool:=c==47
def Gt{c d:UInt8}(hz:z=(d.toNat:Int)):((c.toNat:Int)==z)=(c==d):=by
 rw[Bool.eq_iff_iff];simp only[beq_iff_eq];constructor
 ·intro h;apply UInt8.toNat.inj;omega
 rintro rfl;exact hz.symm
theorem Wj(hF:Fits F w)(hl:s.length<=9223372036854775807):Qb prog 157 [tx s] w F (.int .i64 (ahead Jx s)):=by
 refine QU.intro (G:=λ_=>True) func157 rfl wy rfl rfl hF w8<|QGi<|wQ rfl<|QG<|QGi<|wQ rfl<|QS<|Xf (ι:=D0 s.length λi=>(s.take i).all (λc=>!Jx c)=true) (λi=>[(0,tx s),(3,.int .i64 i.i)]) (λ_=>[]) (λ_ _=>True) (λi=>s.length-i.i) ⟨0,Nat.zero_le _,rfl⟩ wT QGJ w8 λi=>?_
 have hle:=i.le;refine wA 5 I<|QA (Js I XC)<|QHB 3 I ?_
 refine QP I (λhc=>?_) λhc=>?_
 ·have hi:i.i<s.length:=by simp at hc;omega
  clear hc;refine QHC 8 I<|QA (Y5 I I XC (hi))<|QHB 3 I ?_
  refine QP I (λhc=>?_) λhc=>?_
  ·refine wA 7 I ?_
   repeat first|refine Qw ?_|refine Qp ?_
   exact QO () I (wN I) (congrArg (λn:Nat=>Value.int .i64 (n:Int)) (Sw hi i.h (by unfold Jx;have:=hc;rw[Gt (d:=47) (z:=47) rfl]at this;simpa using this))) w8
  refine QM<|Qi<|QHD 3 I<|QA (Qm I I O)<|wB 2 I ?_
  exact Qj (⟨i.i+1,O,BM hi i.h (by unfold Jx;have:=hc;rw[Gt (d:=47) (z:=47) rfl]at this;simpa using this)⟩:D0 s.length λi=>(s.take i).all (λc=>!Jx c)=true) (by show s.length-(i.i+1)<s.length-i.i;omega) wT QGJ w8
 refine Qv ?_
 repeat first|refine QV ?_|refine QQ wy ?_
 refine QW<|QD<|wR I<|QA (Js I XC)<|wQ I<|QT ?_
 exact QO () I (wN I) (congrArg (λn:Nat=>Value.int .i64 (n:Int)) (Sx (by have e:=i.h;rw[List.take_of_length_le (by simp at hc;omega)]at e;exact e))) w8
theorem R8(hF:Fits F w)(hl:s.length<=9223372036854775807):Qb prog 256 [tx s] w F (.bool (XT s)):=by
 refine QU.intro (G:=λ_=>True) func256 rfl wy rfl rfl hF w8<|QGi<|wQ rfl<|QG<|QGi<|wQ rfl<|QS<|Xf (ι:=D0 s.length λi=>(s.take i).all UH=true) (λi=>[(0,tx s),(3,.int .i64 i.i)]) (λ_=>[]) (λ_ _=>True) (λi=>s.length-i.i) ⟨0,Nat.zero_le _,rfl⟩ wT QGJ w8 λi=>?_
 have hle:=i.le;refine wA 5 I<|QA (Js I XC)<|QHB 3 I ?_
 refine QP I (λhc=>?_) λhc=>?_
 ·have hi:i.i<s.length:=by simp at hc;omega
  clear hc;refine QHC 8 I<|QA (Y5 I I XC (hi))<|wB 2 I ?_
  refine Qe (t:=14) rfl (λhb14=>?_) λhb14=>?_
  ·refine QHB 7 I<|K6 I<|wA 6 I ?_
   repeat first|refine Qw ?_|refine Qp ?_
   exact QO () I (wN I) (congrArg Value.bool (by rw[Mu hi (by have h1:=QGx hb14;cases hd:UH s[i.i]with | false=>rfl | true=>(have:=YH.1 hd;omega))])) w8
  refine wB 5 I<|QA (Y5 I I XC (hi))<|QHB 5 I ?_
  refine QP I (λhc=>?_) λhc=>?_
  ·refine wA 6 I ?_
   repeat first|refine Qw ?_|refine Qp ?_
   exact QO () I (wN I) (congrArg Value.bool (by rw[Mu hi (by have h1:=QGx hc;cases hd:UH s[i.i]with | false=>rfl | true=>(have:=YH.1 hd;omega))])) w8
  refine QM<|Qi<|QHD 3 I<|QA (Qm I I O)<|wB 2 I ?_
  exact Qj (⟨i.i+1,O,BM hi i.h (YH.2 (by have h1:=QGy hb14;have h2:=QGy hc;constructor<;>omega))⟩:D0 s.length λi=>(s.take i).all UH=true) (by show s.length-(i.i+1)<s.length-i.i;omega) wT QGJ w8
 refine Qv ?_
 repeat first|refine QV ?_|refine QQ wy ?_
 refine QW<|QHD 7 I ?_
 exact QO () I (wN I) (congrArg Value.bool (by have e:=i.h;rw[List.take_of_length_le (by simp at hc;omega)]at e;exact e)) w8
theorem xH(h1:(1:Int)<(s.length:Int))(h:s[0]' O=48):J7 s=false:=by
 cases s with
 |nil=>simp at h1
 |cons c r =>
  have hc:c=48:=h;subst hc;have hr:r≠[]:=by intro e;subst e;simp at h1
  simp[J7,hr]
theorem O8(h1:(1:Int)<(s.length:Int))(h:¬s[0]' O=48):J7 s=XT s:=by
 cases s with
 |nil=>simp at h1
 |cons c r =>
  have hc:¬c=48:=h;simp[J7,hc]
theorem xG(h0:0<s.length)(h1:s.length<=1):J7 s=XT s:=by
 match s,h0,h1 with
 |[c],_,_ =>
  by_cases hc:c=48
  ·subst hc;rfl
  simp[J7,hc]
theorem LN(hF:Fits F w)(hl:s.length<=9223372036854775807):Qb prog 158 [tx s] w F (.bool (J7 s)):=by
 refine QU.intro (G:=λ_=>True) func158 rfl wy rfl rfl hF w8<|QGi<|wQ rfl<|QG<|wR rfl<|QA (Js rfl XC)<|QA (QN rfl rfl rfl)<|QF5 rfl ?_
 refine Qe (t:=6) rfl (λhb6=>?_) λhb6=>?_
 ·refine wB 4 I<|Ja I I<|Ja I I<|Ja I I<|QHB 4 I<|K6 I<|wA 6 I ?_
  exact QO () I (wN I) (congrArg Value.bool (by have h0:s=[]:=(by simpa using hb6);subst h0;rfl)) w8
 refine wB 3 I<|QA (Js I XC)<|wB 4 I ?_
 refine Qe (t:=10) rfl (λhb10=>?_) λhb10=>?_
 ·refine wB 3 I<|QA (Y5 (i:=0) rfl rfl XC (wk<|QGx hb10))<|QHB 7 I ?_
  refine QP I (λhc=>?_) λhc=>?_
  ·refine wA 6 I ?_;exact QO () I (wN I) (congrArg Value.bool (xH (QGx hb10) (by have h:=hc;rw[Gt (d:=48) (z:=48) rfl]at h;simpa using h))) w8
  refine QHC 5 I<|QJ I (λ_ _ f _=>R8 f hl) λ_=>wQ I<|QT ?_
  exact QO () I (wN I) (congrArg Value.bool (O8 (QGx hb10) (by have h:=hc;rw[Gt (d:=48) (z:=48) rfl]at h;simpa using h))) w8
 refine QHB 8 I<|Xo I<|QHC 5 I<|QJ I (λ_ _ f _=>R8 f hl) λ_=>wQ I<|QT ?_
 exact QO () I (wN I) (congrArg Value.bool (xG (List.length_pos_iff.2 (by simpa using hb6)) (by have h:=QGy hb10;omega))) w8
def GR(s:List UInt8):Int:=if s=[48]then 0 else if Lib.hasPrefix s [45]=true then -1 else 1
def IL(s:List UInt8):List UInt8:=if GR s<0 then s.drop 1 else if GR s=0 then s else 45::s
def Cb(s:List UInt8):List UInt8:=if GR s<0 then s.drop 1 else s
def numOf(s:List UInt8):List UInt8:=s.take (ahead Jx s)
def Fk(s:List UInt8):List UInt8:=if ahead Jx s=s.length then[49]else s.drop (ahead Jx s+1)
def KE(p:UInt8->Bool)(s:List UInt8):ahead p s<=s.length:=(List.takeWhile_sublist _).length_le
theorem Y7(h:0<s.length):Lib.hasPrefix s [45]=(s[0]==45):=by
 cases s with
 |nil=>simp at h
 |cons c r =>
  have e:Lib.hasPrefix (c::r) [45]=(45==c):=by simp[Lib.hasPrefix,List.isPrefixOf]
  rw[e,Bool.eq_iff_iff];simp only[List.getElem_cons_zero,beq_iff_eq];exact⟨λh=>h.symm,λh=>h.symm⟩
def DM(h:GR s<0):0<s.length:=by
 cases s with
 |nil=>exact absurd h wu
 |cons=>simp
theorem Ms(hF:Fits F w):Qb prog 34 [tx s] w F (.int .i64 (GR s)):=by
 refine QU.intro (G:=λ_=>True) func34 rfl wy rfl rfl hF w8<|QGi<|wQ rfl<|QG<|wR rfl<|QA (Y6 rfl rfl)<|QE<|QD ?_
 refine QP I (λhc4=>?_) λhc4=>?_
 ·refine wA 6 I ?_;exact QO () I (wN I) (congrArg (Value.int .i64) (by unfold GR;rw[if_pos (by simpa using hc4)])) w8
 refine QHC 6 I<|QA (Js I WH)<|wB 2 I ?_
 refine Qe (t:=8) rfl (λhb8=>?_) λhb8=>?_
 ·refine wB 3 I<|QA (Y5 (i:=0) rfl rfl WH (wk<|QGx hb8))<|QHB 5 I ?_
  refine QP I (λhc=>?_) λhc=>?_
  ·refine wA 6 I ?_;exact QO () I (wN I) (congrArg (Value.int .i64) (by unfold GR;rw[if_neg (by simpa using hc4),if_pos];rw[Y7 (wk<|QGx hb8),<-Gt (z:=45) rfl];exact hc)) w8
  refine QHC 8 I ?_;exact QO () I (wN I) (congrArg (Value.int .i64) (by unfold GR;rw[if_neg (by simpa using hc4),if_neg];rw[Y7 (wk<|QGx hb8),<-Gt (z:=45) rfl,hc];decide)) w8
 refine QHB 6 I<|Xo I<|QHC 8 I ?_
 exact QO () I (wN I) (congrArg (Value.int .i64) (by have h0:s=[]:=(by have:=hb8;simp at this;exact this);subst h0;rfl)) w8
theorem pQ(hF:Fits F w)(hl:s.length<=1000000000):Qb prog 37 [tx s] w F (tx (IL s)):=by
 refine QU.intro (G:=λ_=>True) func37 rfl wy rfl rfl hF w8<|QGi<|wQ rfl<|QG<|wR rfl<|QJ rfl (λ_ _ f _=>Ms f ) λ_=>QA (QN rfl rfl rfl)<|QE<|QD ?_
 refine QP I (λhc5=>?_) λhc5=>?_
 ·refine wR I<|QA (Zy 1 rfl rfl WH I (DM (QGx hc5)))<|wQ I<|QT ?_
  exact QO () I (wN I) (congrArg tx (by unfold IL;rw[if_pos (QGx hc5)])) w8
 refine QHC 6 I<|QJ I (λ_ _ f k=>Ms f ) λ_=>QHB 3 I ?_
 refine QP I (λhc10=>?_) λhc10=>?_
 ·refine wA 7 I ?_;exact QO () I (wN I) (congrArg tx (by unfold IL;rw[if_neg (QGy hc5),if_pos (by simpa using hc10)])) w8
 refine QHC 5 I<|QA (Xd I I w6)<|wQ I<|QT ?_
 exact QO () I (wN I) (congrArg tx (by unfold IL;rw[if_neg (QGy hc5),if_neg (by simpa using hc10)];rfl)) w8
theorem jE(hF:Fits F w):Qb prog 115 [tx s] w F (tx (Cb s)):=by
 refine QU.intro (G:=λ_=>True) func115 rfl wy rfl rfl hF w8<|QGi<|wQ rfl<|QG<|wR rfl<|QJ rfl (λ_ _ f _=>Ms f ) λ_=>QA (QN rfl rfl rfl)<|QE<|QD ?_
 refine QP I (λhc=>?_) λhc=>?_
 ·refine wR I<|QA (Zy 1 rfl rfl WH I (DM (QGx hc)))<|wQ I<|QT ?_
  exact QO () I (wN I) (congrArg tx (by unfold Cb;rw[if_pos (QGx hc)])) w8
 refine QHC 9 I ?_;exact QO () I (wN I) (congrArg tx (by unfold Cb;rw[if_neg (QGy hc)])) w8
theorem ye(hF:Fits F w):Qb prog 199 [tx s] w F (.bool (s==[48])):=by
 refine QU.intro (G:=λ_=>True) func199 rfl wy rfl rfl hF w8<|QGi<|wQ rfl<|wR rfl<|QA (Y6 rfl rfl)<|wQ rfl<|QT ?_
 exact QO () I (wN I) (rfl) w8
theorem q7(hF:Fits F w)(hl:s.length<=1000000000):Qb prog 116 [tx s] w F (tx (numOf s)):=by
 refine QU.intro (G:=λ_=>True) func116 rfl wy rfl rfl hF w8<|QGi<|wQ rfl<|wR rfl<|QF5 rfl<|QJ rfl (λ_ _ f _=>Wj f (Nat.le_trans hl wu)) λ_=>QA (WK (ahead Jx s) rfl rfl WH rfl (KE _ _))<|wQ rfl<|QT ?_
 exact QO () I (wN I) (rfl) w8
theorem jC(hF:Fits F w)(hl:s.length<=1000000000):Qb prog 117 [tx s] w F (tx (Fk s)):=by
 refine QU.intro (G:=λ_=>True) func117 rfl wy rfl rfl hF w8<|QGi<|wQ rfl<|wR rfl<|QJ rfl (λ_ _ f _=>Wj f (Nat.le_trans hl wu)) λ_=>wQ rfl<|QG<|wR rfl<|QF5 rfl<|QA (Js rfl WH)<|QA (QN rfl rfl rfl)<|QE<|QD ?_
 refine QP I (λhc=>?_) λhc=>?_
 ·refine wA 6 I ?_;exact QO () I (wN I) (congrArg tx (by unfold Fk;rw[if_pos (by simp at hc;omega)])) w8
 refine QHC 6 I<|QA (Qm I I (wk<|KE Jx s))<|QA (Zy (ahead Jx s+1) rfl rfl WH I (by have:=KE Jx s;simp at hc;omega))<|wQ I<|QT ?_
 exact QO () I (wN I) (congrArg tx (by unfold Fk;rw[if_neg (by simp at hc;omega)])) w8
def Mb(hi:i<s.length):JF (s.take (i+1))=JF (s.take i)*10+(s[i].toNat-48):=by
 rw[List.take_succ_eq_append_getElem hi,YG,Ve];simp
def uc(hi:i<s.length)(h:XT s=true):48<=s[i].toNat/\s[i].toNat<=57:=by
 rw[XT,List.all_eq_true]at h;exact YH.1 (h _ (List.getElem_mem hi))
theorem DO(hF:Fits F w)(hs:XT s=true)(hl:s.length<=18):Qb prog 160 [tx s] w F (.int .i64 (JF s)):=by
 refine QU.intro (G:=λ_=>True) func160 rfl wy rfl rfl hF w8<|QGi<|wQ rfl<|QGi<|wQ rfl<|QG<|QGi<|wQ rfl<|QS<|Xf (ι:=D0 s.length λ_=>True) (λi=>[(0,tx s),(3,.int .i64 (JF (s.take i.i))),(4,.int .i64 i.i)]) (λ_=>[]) (λ_ _=>True) (λi=>s.length-i.i) ⟨0,Nat.zero_le _,trivial⟩ wU QGJ w8 λi=>?_
 have hle:=i.le;have hlt:=VM (Hr hs i.i);have hp18:(10:Nat)^(s.take i.i).length<=10^18:=Nat.pow_le_pow_right wu w6;refine wA 5 I<|QA (Js I XC)<|QHB 3 I ?_
 refine QP I (λhc=>?_) λhc=>?_
 ·have hi:i.i<s.length:=by simp at hc;omega
  have hd:=uc hi hs;have hp17:(10:Nat)^(s.take i.i).length<=10^17:=Nat.pow_le_pow_right wu w6;refine QHC 6 I<|QA (Vm I I O)<|wB 2 I<|QA (Y5 I I XC (hi))<|QA (Ob I QEI k_3 O)<|QA (Qm I I O)<|QA (J1 I I O)<|wB 2 I<|Qi<|QHD 3 I<|QA (Qm I I O)<|wB 2 I ?_
  exact Qj (⟨i.i+1,O,trivial⟩:D0 s.length λ_=>True) (by show s.length-(i.i+1)<s.length-i.i;omega) ⟨rfl,(by show some (Value.int .i64 _)=some (Value.int .i64 _);rw[Mb hi];congr 2;omega),rfl,trivial⟩ QGJ w8
 refine Qv ?_
 repeat first|refine QV ?_|refine QQ wy ?_
 refine QW<|QHD 8 I ?_
 exact QO () I (wN I) (congrArg (Value.int .i64) (by rw[List.take_of_length_le (by simp at hc;omega)])) w8
structure QCY(a b:Nat) where
 x:Nat
 y:Nat
 h:Nat.gcd x y=Nat.gcd a b
 hx:x<=9223372036854775807
 hy:y<=9223372036854775807
theorem pS{a b:Nat}(hF:Fits F w)(ha:a<=9223372036854775807)(hb:b<=9223372036854775807):Qb prog 99 [.int .i64 (a:Int),.int .i64 (b:Int)] w F (.int .i64 (Nat.gcd a b:Nat)):=by
 refine QU.intro (G:=λ_=>True) func99 rfl wy rfl rfl hF w8<|QGi<|wQ rfl<|QG<|QS<|Xf (ι:=QCY a b) (λi=>[(0,.int .i64 (i.x:Int)),(1,.int .i64 (i.y:Int))]) (λ_=>[]) (λ_ _=>True) (λi=>i.y) ⟨a,b,rfl,ha,hb⟩ wT QGJ w8 λi=>?_
 have hx:=i.hx;have hy:=i.hy;refine wA 7 I ?_;refine QP I (λhc=>?_) λhc=>?_
 ·have hpos:0<i.y:=by simp at hc;omega
  refine QHC 3 I<|JL QGJ mixed wm<|QL (QC I)<|QL (QC I)<|QL (QC I)<|QL (KW I I O O)<|QL (QF I)<|QL (QF I)<|Q3<|Qi ?_
  exact Qj (⟨i.y,i.x%i.y,by rw[<-i.h,Nat.gcd_comm i.x,Nat.gcd_rec i.y i.x,Nat.gcd_comm],hy,wk<|Nat.mod_lt i.x hpos⟩:QCY a b) (Nat.mod_lt i.x hpos) wT QGJ w8
 refine Qv ?_
 repeat first|refine QV ?_|refine QQ wy ?_
 refine QW<|QHD 8 I ?_
 exact QO () I (wN I) (congrArg (λn:Nat=>Value.int .i64 (n:Int)) (by have h0:i.y=0:=(by simp at hc;omega);rw[<-i.h,h0,Nat.gcd_zero_right])) w8
def EY(n least:Nat):List UInt8:=Vp least (hd n)
def Lo(h:0<n):hd n=hd (n/10)++[UInt8.ofNat (48+n%10)]:=by
 unfold hd;rw[if_neg O];by_cases h0:n/10=0
 ·rw[if_pos h0,Lib.decDigits,dif_pos O,Nat.mod_eq_of_lt O];rfl
 rw[if_neg h0,Lib.decDigits.eq_1 n,dif_neg O]
def IW(h:n<=9223372036854775807):(hd n).length<=20:=by
 unfold hd;split
 ·simp
 rw[Lib.decDigits_length];exact Zj O wu
structure Cj(n least:Nat) where
 m:Nat
 t:List UInt8
 le:m<=n
 h:Vp (least-t.length) (hd m)++t=EY n least
 tl:t.length+(hd m).length<=least+20
def qQ{d:Nat}(h:d<10):(([48,49,50,51,52,53,54,55,56,57]:List UInt8).take (d+1)).drop d=[UInt8.ofNat (48+d)]:=by
 match d,h with
 |0,_=>rfl
 |1,_=>rfl
 |2,_=>rfl
 |3,_=>rfl
 |4,_=>rfl
 |5,_=>rfl
 |6,_=>rfl
 |7,_=>rfl
 |8,_=>rfl
 |9,_=>rfl
def xX{least:Nat}{t:List UInt8}(h:0<n\/t.length<least):Vp (least-(UInt8.ofNat (48+n%10)::t).length) (hd (n/10))++(UInt8.ofNat (48+n%10)::t)=Vp (least-t.length) (hd n)++t:=by
 rcases Nat.eq_zero_or_pos n with h0 | h0
 ·subst h0;have hlt:t.length<least:=O;have e:least-t.length=(least-(t.length+1))+1:=O;simp only[hd,Vp,List.length_cons,if_true,List.length_nil,Nat.sub_zero,List.append_nil,Nat.zero_div,Nat.zero_mod];rw[e,Ko,Ko,List.replicate_succ',List.append_assoc];rfl
 rw[Lo h0];unfold Vp;simp only[List.length_append,List.length_cons,List.length_nil];rw[show least-(t.length+1)-(hd (n/10)).length=least-t.length-((hd (n/10)).length+(0+1)) by omega];simp
def Cj.next{n least:Nat}(i:Cj n least)(h:0<i.m\/i.t.length<least):Cj n least :=
 ⟨i.m/10,UInt8.ofNat (48+i.m%10)::i.t,wk i.le,by rw[xX h];exact i.h,by
  have:=i.tl;rcases Nat.eq_zero_or_pos i.m with h0 | h0
  ·have e:hd (i.m/10)=[]:=by rw[h0];rfl
   rw[e];have e2:hd i.m=[]:=by rw[h0];rfl
   rw[e2]at this;simp at this ⊢;omega
  have e:=congrArg List.length (Lo h0);simp at e ⊢;omega⟩
theorem F9{n least:Nat}(hF:Fits F w)(hn:n<=9223372036854775807)(hl:least<=1000):Qb prog 100 [.int .i64 (n:Int),.int .i64 (least:Int)] w F (tx (EY n least)):=by
 refine QU.intro (G:=λ_=>True) func100 rfl wy rfl rfl hF w8<|QGi<|wQ rfl<|QGi<|wQ rfl<|QG<|QS<|Xf (ι:=Cj n least) (λi=>[(0,.int .i64 (i.m:Int)),(1,.int .i64 (least:Int)),(5,tx i.t)]) (λ_=>[]) (λ_ _=>True) (λi=>i.m+(least-i.t.length)) ⟨n,[],Nat.le_refl _,by unfold EY;simp,by have:=IW hn;simp;omega⟩ wU QGJ w8 λi=>?_
 have hle:=i.le;have htl:=i.tl;refine wA 6 I ?_;refine Qe (t:=8) rfl (λhb8=>?_) λhb8=>?_
 ·refine QHB 7 I<|K6 I<|QHC 6 I<|QA (KW I I O O)<|QF5 I<|QA (KW I I O O)<|QA (Qm I I O)<|QA (DU (i.m%10) (i.m%10+1) rfl rfl rfl XC (.inr rfl) (.inr rfl) O (by show i.m%10+1<=10;omega)) ?_
  rw[qQ (Nat.mod_lt _ wu)];refine QF5 I<|QA (Xd I I w6)<|QHB 5 I<|QA (Wc I I O O O)<|wB 2 I<|Qi ?_
  exact Qj (Cj.next i (Or.inl (wk<|QGx hb8):0<i.m\/i.t.length<least)) (by show i.m/10+(least-(i.t.length+1))<i.m+(least-i.t.length);rcases(Or.inl (wk<|QGx hb8):0<i.m\/i.t.length<least)with g | g<;>omega) wU QGJ w8
 refine wB 3 I<|QA (Js I XC)<|QHB 7 I ?_
 refine QP I (λhc=>?_) λhc=>?_
 ·refine QHC 6 I<|QA (KW I I O O)<|QF5 I<|QA (KW I I O O)<|QA (Qm I I O)<|QA (DU (i.m%10) (i.m%10+1) rfl rfl rfl XC (.inr rfl) (.inr rfl) O (by show i.m%10+1<=10;omega)) ?_
  rw[qQ (Nat.mod_lt _ wu)];refine QF5 I<|QA (Xd I I w6)<|QHB 5 I<|QA (Wc I I O O O)<|wB 2 I<|Qi ?_
  exact Qj (Cj.next i (Or.inr (wk<|QGx hc):0<i.m\/i.t.length<least)) (by show i.m/10+(least-(i.t.length+1))<i.m+(least-i.t.length);rcases(Or.inr (wk<|QGx hc):0<i.m\/i.t.length<least)with g | g<;>omega) wU QGJ w8
 refine Qv ?_
 repeat first|refine QV ?_|refine QQ wy ?_
 refine QW<|QHD 8 I ?_
 exact QO () I (wN I) (congrArg tx (by have h1:=QGy hb8;have h2:=QGy hc;have h0:i.m=0:=O;rw[<-i.h,h0];simp[hd,Vp,show least-i.t.length=0 by omega,Lib.repeatL])) w8
section
variable{P:Program}{N:Nat}{m:Sl}{Y:World->Prop}{ty:TypeId}
def Rk(a:Addr):a.add 0=a:=by simp[Addr.add]
theorem Ra{T e:TypeId}{hi:Option Operand}{vh:Option Value}{sz:Nat}(h:Nat)(hx:ev m x=some (.slice q n c))(eh:Fg m hi=some vh)(hh:vh=some (.int .i64 (h:Int)))(hT:BU P T=some e)(hs:Zm P e=some (g,sz))(hc:h<=c):
  Qt P N m Y (.slice T x none hi none) ty (.slice q h c):=λa w _ _ _ _ ha _=>by
 subst hh;have e1:q.map (λa=>a.add 0)=q:=by cases q<;>simp[Rk]
 have hrun:(Instr.slice T (.slice q n c) none (some (.int .i64 (h:Int))) none).run P w = .ok (.slice q h c) w:=by
  simp[Instr.slice,run_underlying (JU hT),Instr.sliceBounds,Instr.sliceBound,asIntOf,hc,YM hs,e1]
 simp[execOp,ha.ev hx,ha.Fg eh,Instr.sliceAt,run_underlying (JU hT),hrun]
end
def JP(F:Gs)(r:Sr)(l:List Int):Prop:=Qy F r.q r.n 1 (l.map Q7)/\l.length=r.n/\r.n<=r.cap
def JP.le{F':Gs}{r:Sr}(h:JP F r l)(k:Gs.le F F'):JP F' r l:=⟨h.1.le k,h.2⟩
theorem Qy.take(h:Qy F q n 1 (l.map Q7))(hl:l.length=n)(hk:k<=n):Qy F q k 1 ((l.take k).map Q7):=by
 refine⟨w6,λh0=>?_⟩;obtain⟨b,off,arr,T,e1,e2,e3⟩:=h.2 O;refine⟨b,off,arr,T,e1,e2,λj u hu=>e3 j u ?_⟩;rw[List.map_take]at hu;have hj:j<k:=by
  rcases Nat.lt_or_ge j k with g | g
  ·exact g
  rw[List.getElem?_eq_none w6]at hu;cases hu
 rw[List.getElem?_take_of_lt hj]at hu;exact hu
def Fs(hk:k<l.length)(h:JA l=JA (l.take (k+1)))(h0:l[k]=0):JA l=JA (l.take k):=by
 rw[h,List.take_succ_eq_append_getElem hk,h0,YX]
def Fq(hk:k<l.length)(h:JA l=JA (l.take (k+1)))(h0:l[k]≠0):JA l=l.take (k+1):=by
 rw[h,List.take_succ_eq_append_getElem hk,W4 _ h0]
structure dc(l:List Int) where
 k:Nat
 le:k<=l.length
 h:JA l=JA (l.take k)
theorem W8{r:Sr}(hF:Fits F w)(hR:JP F r l)(hl:l.length<=1000000000):QU prog 258 [r.v] w F (λ(_:Unit)=>.slice r.q (JA l).length r.cap) (λ_ F=>JP F ⟨r.q,(JA l).length,r.cap⟩ (JA l)):=by
 obtain⟨q,n,c⟩:=r;have hn:=hR.2.1;have hcap:=hR.2.2;dsimp only at hn hcap;refine QU.intro (G:=λF=>JP F ⟨q,n,c⟩ l) func258 rfl wy rfl rfl hF (λF' hF'=>hR.le hF')<|QGi<|wQ rfl<|QG<|QS<|Xf (ι:=dc l) (λi=>[(0,.slice q i.k c)]) (λ_=>[]) (λ_ F=>JP F ⟨q,n,c⟩ l) (λi=>i.k) ⟨n,O,by rw[<-hn,List.take_length]⟩ wS QGJ w9 λi=>?_
 have hle:=i.le;refine wA 4 I<|QA (Qf I Qk)<|wB 2 I ?_
 refine Qe (t:=6) rfl (λhb6=>?_) λhb6=>?_
 ·have hk0:0<i.k:=wk<|QGx hb6
  have hk1:i.k-1<l.length:=O;refine JN _ (λ_ _ f h=>h.1.ptr (by dsimp only;omega)) (λhq=>?_);obtain⟨qb,qo,hq⟩:=hq;dsimp only at hq;subst hq;refine wB 5 I<|QA (Qf I Qk)<|QK I I<|QA (J1 I I O)<|QK I I<|QA (Qx (i:=i.k-1) rfl wM Qk Qu O)<|QK I I<|QA (XY (n:=n) (sz:=1) (cs:=l.map Q7) (u:=.int .i64 l[i.k-1]) I Qu tA O (by simp[hk1,Q7]))<|QHB 5 I ?_
  refine QP I (λhc=>?_) λhc=>?_
  ·refine QHC 6 I<|QA (Qf I Qk)<|QA (J1 I I O)<|QA (Ra (i.k-1) rfl rfl wM Qk Qu O)<|wB 2 I<|Qi ?_
   exact Qj (⟨i.k-1,O,Fs hk1 (by rw[show i.k-1+1=i.k by omega];exact i.h) (by simpa using hc)⟩:dc l) (by show i.k-1<i.k;omega) wS QGJ w9
  refine Qv ?_
  repeat first|refine QV ?_|refine QQ wy ?_
  refine QW<|QHD 8 I ?_
  exact QO () I (wN I) (congrArg (λk:Nat=>Value.slice _ k c) (by have e:=Fq hk1 (by rw[show i.k-1+1=i.k by omega];exact i.h) (by simpa using hc);rw[show i.k-1+1=i.k by omega]at e;rw[e];simp;omega)) λF h=>by have hz:(JA l).length<=l.length:=Xp l;exact⟨(by have:=h.1.take hn (show(JA l).length<=n by omega);rw[<-BX]at this;exact this),rfl,(by show(JA l).length<=c;omega)⟩
 refine QHB 10 I<|Xo I<|Qv ?_
 repeat first|refine QV ?_|refine QQ wy ?_
 refine QW<|QHD 8 I ?_
 exact QO () I (wN I) (congrArg (λk:Nat=>Value.slice _ k c) (by have h0:i.k=0:=(wk<|QGy hb6);have e:=i.h;rw[h0]at e;simp[Rv]at e;rw[e,h0];rfl)) λF h=>by have hz:(JA l).length<=l.length:=Xp l;exact⟨(by have:=h.1.take hn (show(JA l).length<=n by omega);rw[<-BX]at this;exact this),rfl,(by show(JA l).length<=c;omega)⟩
theorem Q6.fix{w0:World}{F0:Gs}{bs1:List (Nat×Obj)}{G:Gs->Prop}{T:TypeId}{sz:Nat}{v:Value}(hr:Q6 T sz v n cs ob):
  ∃r:Sr,v=r.v/\r.n=n/\n<=r.cap/\∀w,St ⟨w0,F0,bs1++ob,G⟩ w->St ⟨w0,F0,bs1,λF=>G F/\Qy F r.q n sz cs⟩ w:=by
 cases hr with
 |nil=>exact⟨⟨Option.none,0,0⟩,rfl,rfl,Nat.le_refl _,λw hw=>by
   have:=hw.Dd (G':=λF=>G F/\Qy F Option.none 0 sz []) (λF h=>⟨h,Qy.nil F Option.none sz⟩);simpa using this⟩
 |some h1 h2 h3 h4 =>
  rename_i b cap rest;refine⟨⟨Option.some ⟨b,0,Option.none⟩,n,cap⟩,rfl,rfl,h3,λw hw=>?_⟩;have:=St.freeze (pre:=bs1) (post:=[]) (b:=b) hw;rw[List.append_nil]at this;refine this.Dd λF h=>⟨h.1,h1,λ_=>⟨b,0,_,T,rfl,h.2,λj u hu=>?_⟩⟩;have hj:j<cs.length:=by rcases Nat.lt_or_ge j cs.length with g | g;exact g;rw[List.getElem?_eq_none g]at hu;cases hu
  rw[Nat.zero_add];simp only[List.getElem?_toArray];rw[List.getElem?_append,if_pos hj];exact hu
theorem QCX{e:Exit}{E E':Env}(h:∀w,St E w->St E' w)(k:Fin Q e N m E'):Fin Q e N m E:=λa w ha hw=>k a w ha (h w hw)
theorem N9{r:Sr}{i:Nat}(hF:Fits F w)(hR:JP F r l)(hi:i<=1000000000):Qb prog 260 [r.v,.int .i64 (i:Int)] w F (.int .i64 (l.getD i 0)):=by
 obtain⟨q,n,c⟩:=r;have hn:=hR.2.1;dsimp only at hn;refine QU.intro (G:=λF=>JP F ⟨q,n,c⟩ l) func260 rfl wy rfl rfl hF (λF' hF'=>hR.le hF') ?_;dsimp only[Sr.v];refine wA 10 I<|QA (Qf I Qk)<|QHB 3 I ?_
 refine QP I (λhc=>?_) λhc=>?_
 ·have hk1:i<l.length:=wk<|QGx hc
  refine Xe _ (λ_ _ f h=>h.1.ptr (by dsimp only;omega)) (λhq=>?_);obtain⟨qb,qo,hq⟩:=hq;dsimp only at hq;subst hq;refine wA 4 I<|QA (Qx (i:=i) rfl rfl Qk Qu O)<|QA (XY (n:=n) (sz:=1) (cs:=l.map Q7) (u:=.int .i64 l[i]) I Qu tA O (by simp[hk1,Q7]))<|wQ I<|QT ?_
  exact QO () I (wN I) (congrArg (Value.int .i64) (by simp[hk1])) w8
 refine QHC 8 I ?_;exact QO () I (wN I) (congrArg (Value.int .i64) (by have:=QGy hc;simp[show l.length<=i by omega])) w8
def B9:Int:=1000000000
structure QCd(a b:List Int) where
 i:Nat
 out:List Int
 carry:Int
 v:Value
 ob:List (Nat×Obj)
 le:i<=max a.length b.length+1
 len:out.length=i
 dg:DG B9 out
 c0:0<=carry
 c1:carry<=1
 cz:max a.length b.length<i->carry=0
 h:dv B9 out+B9^i*carry=dv B9 (a.take i)+dv B9 (b.take i)
 hr:Q6 3 1 v out.length (out.map Q7) ob
def VT(B:Int)(l:List Int)(n:Nat):dv B (l.take (n+1))=dv B (l.take n)+B^n*l.getD n 0:=by
 rcases Nat.lt_or_ge n l.length with h | h
 ·rw[GL B l n h];simp[h]
 rw[List.take_of_length_le O,List.take_of_length_le h];simp[h]
def My(h:DG B9 l)(i:Nat):0<=l.getD i 0/\l.getD i 0<1000000000:=h.getD wu i
def Sa(h:l.length<=i):l.getD i 0=0:=by simp[h]
def QB7{c s:Int}(hl:out.length=i)(h:dv B9 out+B9^i*c=dv B9 (a.take i)+dv B9 (b.take i))(hs:s=a.getD i 0+b.getD i 0+c):
  dv B9 (out++[s%B9])+B9^(i+1)*(s/B9)=dv B9 (a.take (i+1))+dv B9 (b.take (i+1)):=by
 rw[XX,hl,VT,VT,Int.pow_succ,Int.mul_assoc];have e:s%B9+B9*(s/B9)=s:=Int.emod_add_mul_ediv s B9;have e2:B9^i*(s%B9)+B9^i*(B9*(s/B9))=B9^i*s:=by rw[<-Int.mul_add,e]
 rw[Int.add_assoc,e2,hs,Int.mul_add,Int.mul_add];omega
abbrev Ei(P:Program)(f:FuncId)(args:List Value)(w:World)(F:Gs)(p:List Int->Prop):Prop:=QU P f args w F (λ(c:Sr×List Int)=>.slice c.1.q c.1.n c.1.cap) λc F=>JP F c.1 c.2/\DG B9 c.2/\p c.2
theorem TJ(hF:Fits F w)(hA:JP F ra a)(hB:JP F rb b)(da:DG B9 a)(db:DG B9 b)(la:a.length<=100000000)(lb:b.length<=100000000):
  Ei prog 166 [ra.v,rb.v] w F (λl=>dv B9 l=dv B9 a+dv B9 b/\l.length<=max a.length b.length+1):=by
 have na:=hA.2.1;have nb:=hB.2.1;have h9:B9=1000000000:=rfl;refine QU.intro (G:=λF=>JP F ra a/\JP F rb b) func166 rfl wy rfl rfl hF (λF' hF'=>⟨hA.le hF',hB.le hF'⟩)<|QGi<|wQ rfl<|QGi<|wQ rfl<|QGi<|wQ rfl<|QG<|QGi<|wQ rfl<|QS ?_
 refine Xf (ι:=QCd a b) (λi=>[(0,ra.v),(1,rb.v),(5,i.v),(6,.int .i64 i.carry),(7,.int .i64 (i.i:Int))]) (λi=>i.ob) (λ_ F=>JP F ra a/\JP F rb b) (λi=>max a.length b.length+1-i.i)
  ⟨0,[],0,.slice none 0 0,[],Nat.zero_le _,rfl,DG.nil _,wu,wu,λ_=>rfl,wz,.nil⟩ wW tD w9 λi=>?_
 have hle:=i.le;have hlen:=i.len;have hc0:=i.c0;have hc1:=i.c1;refine QG ?_;refine Hb 22 (.bool (decide ((i.i:Int)<ra.n)||decide ((i.i:Int)<rb.n)||decide (i.carry>0))) ?_ ?_
 ·refine wA 3 I<|QA (Qf I Qk)<|wB 2 I ?_
  refine Qe (t:=13) rfl (λhb13=>?_) λhb13=>?_
  ·refine wB 10 I ?_;exact Xn (exd 15 rfl rfl) (congrArg (λb=>some (Value.bool b)) (by rw[Bool.eq_iff_iff];simp_all;try omega)) QGJ w9
  refine wB 5 I<|QA (Qf I Qk)<|wB 4 I ?_
  refine Qe (t:=19) rfl (λhb19=>?_) λhb19=>?_
  ·refine wB 4 I ?_;exact Xn (exd 16 rfl rfl) (congrArg (λb=>some (Value.bool b)) (by rw[Bool.eq_iff_iff];simp_all;try omega)) QGJ w9
  refine wB 6 I ?_;exact Xn (exd 16 rfl rfl) (congrArg (λb=>some (Value.bool b)) (by rw[Bool.eq_iff_iff];simp_all;try omega)) QGJ w9
 refine QP I (λhc=>?_) λhc=>?_
 ·have hi:i.i<=max a.length b.length:=by
   rcases Nat.lt_or_ge (max a.length b.length) i.i with g | g
   ·have:=i.cz g;simp at hc;omega
   exact g
  have b1:=My da i.i;have b2:=My db i.i;refine QHC 8 I<|QJ I (λ_ _ f k=>N9 (r:=ra) (l:=a) f k.1 O) λ_=>wB 2 I<|QJ I (λ_ _ f k=>N9 (r:=rb) (l:=b) f k.1.2 O) λ_=>QA (Qm I I O)<|QF5 I<|QA (Qm I I O)<|QHB 7 I<|QA (KW I I O O)<|Qs I (JU Qk) Qu BR I I λb37=>?_
  refine YC (bs1:=[]) (ob:=i.ob) (k:=1) (sz:=1) (news:=[.int .i64 ((a.getD i.i 0+b.getD i.i 0+i.carry)%1000000000)]) I I Qk Qu BR I D7 i.hr (Src.row (off:=0) tB (λj v hv=>by rw[Nat.zero_add];show([Value.int .i64 ((a.getD i.i 0+b.getD i.i 0+i.carry)%1000000000)].toArray)[j]?=some v;rw[List.getElem?_toArray];exact hv) rfl) O O (λu hu=>by rw[List.mem_singleton.1 hu];rfl) (λv' ob' hr'=>?_);refine QHB 5 I<|QA (Wc I I O O O)<|wB 2 I<|Qi<|QHD 3 I<|QA (Qm I I O)<|wB 2 I ?_
  exact Qj (⟨i.i+1,i.out++[(a.getD i.i 0+b.getD i.i 0+i.carry)%B9],(a.getD i.i 0+b.getD i.i 0+i.carry)/B9,v',ob',O,by simp[hlen],i.dg.append (DG.cons (by rw[h9];omega) (by rw[h9];omega) (DG.nil _)),by rw[h9];omega,by rw[h9];omega,λg=>by rw[Sa (l:=a) O,Sa (l:=b) O,h9];omega,QB7 hlen i.h I,by simpa[Q7,h9]using hr'⟩:QCd a b) (by show max a.length b.length+1-(i.i+1)<max a.length b.length+1-i.i;omega) wW QGJ λF h=>h.1.1.1
 refine Qv ?_
 repeat first|refine QV ?_|refine QQ wy ?_
 refine QW<|QHD 8 I ?_
 obtain⟨r,hv,hrn,hrc,hfix⟩:=Q6.fix (w0:=w) (F0:=F) (bs1:=[]) (G:=λF=>JP F ra a/\JP F rb b) i.hr;refine QCX hfix ?_;have hex:max a.length b.length<=i.i/\i.carry=0:=by simp at hc;omega
 exact QO ((r,i.out):Sr×List Int) rfl (wN I) hv.symm λF h=>⟨⟨by rw[hrn];exact h.2,hrn.symm,by show r.n<=r.cap;omega⟩,i.dg,by have e:=i.h;rw[hex.2,List.take_of_length_le O,List.take_of_length_le O]at e;simpa using e,by show i.out.length<=_;omega⟩
structure QCb(a b:List Int) where
 k:Nat
 le:k<=a.length
 h:a.drop k=b.drop k
def CD(ha:k<a.length)(hb:k<b.length)(h:a.drop (k+1)=b.drop (k+1))(e:a[k]=b[k]):a.drop k=b.drop k:=by
 rw[List.drop_eq_getElem_cons ha,List.drop_eq_getElem_cons hb,h,e]
theorem Wm(hF:Fits F w)(hA:JP F ra a)(hB:JP F rb b)(da:DG B9 a)(db:DG B9 b)(za:NZ a)(zb:NZ b)(la:a.length<=100000000)(lb:b.length<=100000000):
  Qb prog 167 [ra.v,rb.v] w F (.int .i64 (Za (dv B9 a) (dv B9 b))):=by
 have h91:(1:Int)<B9:=wu;have h90:(0:Int)<B9:=wu;obtain⟨q,n,c⟩:=ra;obtain⟨q',n',c'⟩:=rb;have na:=hA.2.1;have nb:=hB.2.1;dsimp only at na nb;refine QU.intro (G:=λF=>JP F ⟨q,n,c⟩ a/\JP F ⟨q',n',c'⟩ b) func167 rfl wy rfl rfl hF (λF' hF'=>⟨hA.le hF',hB.le hF'⟩) ?_;dsimp only[Sr.v];refine wA 9 I<|QA (Qf I Qk)<|QF5 I<|QA (Qf I Qk)<|QHB 3 I ?_
 refine QP I (λhc=>?_) λhc=>?_
 ·refine wA 4 I<|QA (Qf I Qk)<|QF5 I<|QA (Qf I Qk)<|QHB 3 I ?_
  refine QP I (λhc=>?_) λhc2=>?_
  ·refine wA 6 I ?_;exact QO () I (wN I) (congrArg (Value.int .i64) (WS (Xi h91 da db zb (by simp at hc;omega)))) w8
  refine QHC 8 I ?_;exact QO () I (wN I) (congrArg (Value.int .i64) (Hq (Xi h91 db da za (by simp at hc hc2;omega)))) w8
 refine QHC 6 I<|QA (Qf I Qk)<|QA (J1 I I O)<|QHB 3 I ?_
 have hab:n=n':=by simp at hc;omega
 refine QS<|Xf (ι:=QCb a b) (λi=>[(0,.slice q n c),(1,.slice q' n' c'),(5,.int .i64 ((i.k:Int)-1))]) (λ_=>[]) (λ_ F=>JP F ⟨q,n,c⟩ a/\JP F ⟨q',n',c'⟩ b) (λi=>i.k) ⟨n,O,by rw[List.drop_eq_nil_of_le O,List.drop_eq_nil_of_le O]⟩ wU QGJ w9 λi=>?_
 have hle:=i.le;refine wA 7 I ?_;refine QP I (λhc=>?_) λhc=>?_
 ·refine QHC 6 I ?_;have hk0:0<i.k:=wk<|QGx hc
  have hka:i.k-1<a.length:=O;have hkb:i.k-1<b.length:=O;refine Xe _ (λ_ _ f h=>h.1.1.ptr (by dsimp only;omega)) (λhq=>?_);obtain⟨qb,qo,hq⟩:=hq;dsimp only at hq;subst hq;refine Xe _ (λ_ _ f h=>h.2.1.ptr (by dsimp only;omega)) (λhq=>?_);obtain⟨qb',qo',hq⟩:=hq;dsimp only at hq;subst hq;refine JL QGJ mixed wm<|QL (QC I)<|QL (QC I)<|QL (Qx (i:=i.k-1) rfl wM Qk Qu O)<|QL (XY (n:=n) (sz:=1) (cs:=a.map Q7) (u:=.int .i64 a[i.k-1]) I Qu (λF h=>h.1.1) O (by simp[hka,Q7]))<|QL (QC I)<|QL (QC I)<|QL (Qx (i:=i.k-1) rfl wM Qk Qu O)<|QL (XY (n:=n') (sz:=1) (cs:=b.map Q7) (u:=.int .i64 b[i.k-1]) I Qu (λF h=>h.2.1) O (by simp[hkb,Q7]))<|QL (QN I I I)<|Q3<|QD ?_
  refine QP I (λhc=>?_) λhca=>?_
  ·refine wA 6 I ?_
   repeat first|refine Qw ?_|refine Qp ?_
   exact QO () I (wN I) (congrArg (Value.int .i64) (WS (Tr h90 da db O (i.k-1) hka (by rw[show i.k-1+1=i.k by omega];exact i.h) (QGx hc)))) w8
  refine QHC 3 I<|JL QGJ mixed wm<|QL (QC I)<|QL (QC I)<|QL (Qx (i:=i.k-1) rfl wM Qk Qu O)<|QL (XY (n:=n) (sz:=1) (cs:=a.map Q7) (u:=.int .i64 a[i.k-1]) I Qu (λF h=>h.1.1) O (by simp[hka,Q7]))<|QL (QC I)<|QL (QC I)<|QL (Qx (i:=i.k-1) rfl wM Qk Qu O)<|QL (XY (n:=n') (sz:=1) (cs:=b.map Q7) (u:=.int .i64 b[i.k-1]) I Qu (λF h=>h.2.1) O (by simp[hkb,Q7]))<|QL (QN I I I)<|Q3<|QD ?_
  refine QP I (λhc=>?_) λhcb=>?_
  ·refine wA 6 I ?_
   repeat first|refine Qw ?_|refine Qp ?_
   exact QO () I (wN I) (congrArg (Value.int .i64) (Hq (Tr h90 db da O (i.k-1) hkb (by rw[show i.k-1+1=i.k by omega];exact i.h.symm) (QGx hc)))) w8
  refine QM<|Qi<|QHD 3 I<|QA (J1 I I O)<|wB 2 I ?_
  exact Qj (⟨i.k-1,O,CD hka hkb (by rw[show i.k-1+1=i.k by omega];exact i.h) (by simp at hca hcb;omega)⟩:QCb a b) (by show i.k-1<i.k;omega) ⟨rfl,rfl,congrArg (λz:Int=>some (Value.int .i64 z)) (by dsimp only;omega),trivial⟩ QGJ w9
 refine Qv ?_
 repeat first|refine QV ?_|refine QQ wy ?_
 refine QW<|QHD 7 I ?_
 exact QO () I (wN I) (congrArg (Value.int .i64) (by have h0:i.k=0:=(wk<|QGy hc);have e:=i.h;rw[h0]at e;simp at e;rw[e];exact M6 _)) w8
theorem MS{P:Program}{c:Code}{E E':Env}(h:∀w,St E w->St E' w)(k:J P c Q N m E'):J P c Q N m E:=λa w ha hw=>k a w ha (h w hw)
def gC{c c':Int}(hl:out.length=i)(h:dv B9 out+dv B9 (b.take i)=dv B9 (a.take i)+B9^i*c)(hd:d=a.getD i 0-b.getD i 0-c+B9*c'):
  dv B9 (out++[d])+dv B9 (b.take (i+1))=dv B9 (a.take (i+1))+B9^(i+1)*c':=by
 rw[XX,hl,VT,VT,Int.pow_succ,Int.mul_assoc,hd,Int.mul_add,Int.mul_sub,Int.mul_sub];omega
structure uf(a b:List Int) where
 i:Nat
 out:List Int
 borrow:Int
 v:Value
 ob:List (Nat×Obj)
 le:i<=a.length
 len:out.length=i
 dg:DG B9 out
 c0:0<=borrow
 c1:borrow<=1
 h:dv B9 out+dv B9 (b.take i)=dv B9 (a.take i)+B9^i*borrow
 hr:Q6 3 1 v out.length (out.map Q7) ob
def yP{c:Int}(da:DG B9 out)(hl:out.length=a.length)(hb:b.length<=a.length)(h:dv B9 out+dv B9 (b.take a.length)=dv B9 (a.take a.length)+B9^a.length*c)(h0:0<=c)(h1:c<=1)(hle:dv B9 b<=dv B9 a):dv B9 out=dv B9 a-dv B9 b:=by
 rw[List.take_length,List.take_of_length_le hb]at h;have hlt:=YB (b:=B9) wu da;rw[hl]at hlt;have hc:c=0\/c=1:=O;rcases hc with rfl | rfl
 ·rw[Int.mul_zero]at h;omega
 rw[Int.mul_one]at h;omega
theorem DP(hF:Fits F w)(hA:JP F ra a)(hB:JP F rb b)(da:DG B9 a)(db:DG B9 b)(la:a.length<=100000000)(lb:b.length<=a.length)(hle:dv B9 b<=dv B9 a):
  Ei prog 168 [ra.v,rb.v] w F (λl=>dv B9 l=dv B9 a-dv B9 b/\NZ l/\l.length<=a.length):=by
 obtain⟨q,n,c⟩:=ra;have na:=hA.2.1;have nb:=hB.2.1;dsimp only at na;have h9:B9=1000000000:=rfl;refine QU.intro (G:=λF=>JP F ⟨q,n,c⟩ a/\JP F rb b) func168 rfl wy rfl rfl hF (λF' hF'=>⟨hA.le hF',hB.le hF'⟩) ?_;dsimp only[Sr.v];refine wA 22 I ?_;refine Xf (ι:=uf a b) (λi=>[(0,.slice q n c),(1,.slice rb.q rb.n rb.cap),(5,i.v),(6,.int .i64 i.borrow),(7,.int .i64 (i.i:Int))]) (λi=>i.ob) (λ_ F=>JP F ⟨q,n,c⟩ a/\JP F rb b) (λi=>a.length-i.i)
  ⟨0,[],0,.slice none 0 0,[],Nat.zero_le _,rfl,DG.nil _,wu,wu,wz,.nil⟩ wW tD w9 λi=>?_
 have hile:=i.le;have hlen:=i.len;have hc0:=i.c0;have hc1:=i.c1;refine wA 5 I<|QA (Qf I Qk)<|QHB 3 I ?_
 refine QP I (λhc=>?_) λhc=>?_
 ·have hi:i.i<n:=wk<|QGx hc
  have hia:i.i<a.length:=O;have b1:=My da i.i;have b2:=My db i.i;have e1:a[i.i]=a.getD i.i 0:=by simp[hia]
  refine Xe _ (λ_ _ f h=>h.1.1.ptr (by dsimp only;omega)) (λhq=>?_);obtain⟨qb,qo,hq⟩:=hq;dsimp only at hq;subst hq;refine QHC 5 I<|JL QGJ mixed wm<|QL (QC I)<|QL (QC I)<|QL (Qx (i:=i.i) rfl rfl Qk Qu O)<|QL (XY (n:=n) (sz:=1) (cs:=a.map Q7) (u:=.int .i64 (a.getD i.i 0)) I Qu (λF h=>h.1.1) O (by simp[hia,Q7]))<|QL (QC I)<|QL (QC I)<|Qc I (λ_ _ f k=>N9 (r:=rb) (l:=b) f k.2 O) λ_=>QL (J1 I I O)<|QL (QC I)<|QL (J1 I I O)<|QL (QF I)<|Q3<|QHD 7 I ?_
  refine wA 6 I ?_;refine QP I (λhs=>?_) λhs=>?_
  ·refine wR I<|QA (Qm I I O)<|wQ I<|QB<|QHB 6 I<|Qs I (JU Qk) Qu BR I I λb31=>?_
   refine YC (bs1:=[]) (ob:=i.ob) (k:=1) (sz:=1) (news:=[.int .i64 ((a.getD i.i 0-b.getD i.i 0-i.borrow)+1000000000)]) I I Qk Qu BR I D7 i.hr (Src.row (off:=0) tB (λj v hv=>by rw[Nat.zero_add];show([Value.int .i64 ((a.getD i.i 0-b.getD i.i 0-i.borrow)+1000000000)].toArray)[j]?=some v;rw[List.getElem?_toArray];exact hv) rfl) O O (λu hu=>by rw[List.mem_singleton.1 hu];rfl) (λv' ob' hr'=>?_);refine wB 2 I<|Qi<|QHD 3 I<|QA (Qm I I O)<|wB 2 I ?_
   exact Qj (⟨i.i+1,i.out++[((a.getD i.i 0-b.getD i.i 0-i.borrow)+1000000000)],1,v',ob',O,by simp[hlen],i.dg.append (DG.cons (wk<|QGx hs) (by have:=QGx hs;rw[h9];omega) (DG.nil _)),wu,wu,gC hlen i.h (by rw[h9];omega),by simpa[Q7]using hr'⟩:uf a b) (by show a.length-(i.i+1)<a.length-i.i;omega) wW QGJ λF h=>h.1.1
  refine QHC 5 I<|Qs I (JU Qk) Qu BR I I λb31=>?_
  refine YC (bs1:=[]) (ob:=i.ob) (k:=1) (sz:=1) (news:=[.int .i64 (a.getD i.i 0-b.getD i.i 0-i.borrow)]) I I Qk Qu BR I D7 i.hr (Src.row (off:=0) tB (λj v hv=>by rw[Nat.zero_add];show([Value.int .i64 (a.getD i.i 0-b.getD i.i 0-i.borrow)].toArray)[j]?=some v;rw[List.getElem?_toArray];exact hv) rfl) O O (λu hu=>by rw[List.mem_singleton.1 hu];rfl) (λv' ob' hr'=>?_);refine wB 2 I<|Qi<|QHD 3 I<|QA (Qm I I O)<|wB 2 I ?_
  exact Qj (⟨i.i+1,i.out++[(a.getD i.i 0-b.getD i.i 0-i.borrow)],0,v',ob',O,by simp[hlen],i.dg.append (DG.cons (wk<|QGy hs) (by have:=QGy hs;rw[h9];omega) (DG.nil _)),wu,wu,gC hlen i.h (by rw[h9];omega),by simpa[Q7]using hr'⟩:uf a b) (by show a.length-(i.i+1)<a.length-i.i;omega) wW QGJ λF h=>h.1.1
 refine Qv ?_
 repeat first|refine QV ?_|refine QQ wy ?_
 refine QW<|QD<|QG ?_
 obtain⟨r,hv,hrn,hrc,hfix⟩:=Q6.fix (w0:=w) (F0:=F) (bs1:=[]) (G:=λF=>JP F ⟨q,n,c⟩ a/\JP F rb b) i.hr;have hex:i.i=a.length:=wk<|QGy hc
 have hlz:=Xp i.out;refine MS hfix ?_;rw[hv];refine wA 2 I<|QJ I (λ_ _ f k=>W8 (r:=r) (l:=i.out) f ⟨by rw[hrn];exact k.2,hrn.symm,O⟩ O) λc34=>wQ I<|QT ?_
 exact QO ((⟨r.q,(JA i.out).length,r.cap⟩,JA i.out):Sr×List Int) rfl (wN I) rfl λF h=>⟨h.2,i.dg.JA,by show dv B9 (JA i.out)=_;rw[XG];exact yP i.dg O lb (by have e:=i.h;rw[hex]at e;exact e) hc0 hc1 hle,Xm _,by show(JA i.out).length<=_;omega⟩
theorem Ym.one{l:List Value}{v:Value}:∀ {n:Nat},n<l.length->Ym l n [v] (l.set n v):=by
 induction l with
 |nil=>intro n h;simp at h
 |cons x l ih =>
  intro n h;cases n with
  |zero=>exact .here .nil
  |succ n=>exact .skip (ih (by simpa using h))
def Ha(la lb:List Int)(i j:Nat)(x:Int)(o:List Int)(c:Int):Prop :=
 o.length=la.length+lb.length/\DG B9 o/\(∀p,i+lb.length<=p->Qd o p=0)/\(0<=c/\c<B9) /\
  dv B9 o+B9^(i+j)*c=dv B9 (la.take i)*dv B9 lb+B9^i*(x*dv B9 (lb.take j))
def JJ:(0:Int)<B9:=wu
theorem Lf{x y o c:Int}(hx:0<=x/\x<B9)(hy:0<=y/\y<B9)(ho:0<=o/\o<B9)(hc:0<=c/\c<B9):0<=x*y/\x*y<=999999998000000001/\0<=o+x*y+c/\(o+x*y+c)/B9<B9:=by
 have h9:B9=1000000000:=rfl;have h0:=Int.mul_nonneg hx.1 hy.1;have h1:x*y<=(B9-1)*(B9-1):=Int.mul_le_mul O O hy.1 O;generalize x*y=m at *
 have q:=h9 ▸ hx.2;generalize hB:B9=B at *
 subst h9;omega
theorem Ha.step{la lb:List Int}{j:Nat}{x c s:Int}(h:Ha la lb i j x o c)(hx:0<=x/\x<B9)(hb:DG B9 lb)(hj:j<lb.length)(hi:i<la.length)(hs:s=Qd o (i+j)+x*Qd lb j+c):
  Ha la lb i (j+1) x (o.set (i+j) (s%B9)) (s/B9):=by
 obtain⟨h1,h2,h3,h4,h5⟩:=h;obtain⟨m0,m1,m2,m3⟩:=Lf hx (hb.Qd JJ j) (h2.Qd JJ (i+j)) h4;rw[<-hs]at m2 m3;refine⟨by simpa using h1,h2.set _ (Int.emod_nonneg _ wu) (Int.emod_lt_of_pos _ JJ),?_,⟨Int.ediv_nonneg m2 wu,m3⟩,?_⟩
 ·intro p hp;rw[K4 O,if_neg O];exact h3 p hp
 rw[G6 B9 O,Vt,<-Nat.add_assoc,Int.pow_succ];have e0:s%B9+B9*(s/B9)=s:=Int.emod_add_mul_ediv s B9;generalize s%B9=lo at *
 generalize s/B9=hi at *
 have e:B9^(i+j)*(lo+B9*hi)=B9^(i+j)*(Qd o (i+j)+x*Qd lb j+c):=by rw[e0,hs]
 rw[Int.pow_add]at *
 generalize B9^i=u at *
 generalize B9^j=v at *
 generalize B9=B at *
 grind
theorem Ha.row{la lb:List Int}{x c:Int}(h:Ha la lb i lb.length x o c)(hi:i<la.length)(hx:x=Qd la i):
  Ha la lb (i+1) 0 0 (o.set (i+lb.length) c) 0:=by
 obtain⟨h1,h2,h3,h4,h5⟩:=h;refine⟨by simpa using h1,h2.set _ h4.1 h4.2,?_,⟨Int.le_refl _,JJ⟩,?_⟩
 ·intro p hp;rw[K4 O,if_neg O];exact h3 p O
 rw[G6 B9 O,h3 _ (Nat.le_refl _),Vt,<-hx];rw[List.take_length]at h5;simp only[Int.mul_zero,Int.add_zero,Int.zero_mul,Int.sub_zero];rw[h5];generalize B9^i=u at *
 generalize B9=B at *
 grind
def Ha.start(la lb:List Int):Ha la lb 0 0 0 (List.replicate (la.length+lb.length) 0) 0:=by
 refine⟨wz,DG.replicate JJ _,?_,⟨Int.le_refl _,JJ⟩,by rw[Pp];simp⟩;intro p _;unfold Qd;split<;>simp
def Ha.next{la lb:List Int}(h:Ha la lb i 0 0 o 0)(x:Int):Ha la lb i 0 x o 0:=by
 obtain⟨h1,h2,h3,h4,h5⟩:=h;exact⟨h1,h2,h3,h4,by simpa using h5⟩
def Ha.stop{la lb:List Int}(h:Ha la lb i 0 0 o 0)(hi:la.length<=i):dv B9 o=dv B9 la*dv B9 lb:=by
 have e:=h.2.2.2.2;rw[List.take_of_length_le hi]at e;simpa using e
def Ec(h:k<o.length):(o.map Q7)[0+k*1]?=some (.int .i64 (Qd o k)):=by
 rw[ZH h];simp[h,Q7]
def JH(h:k<o.length):(o.map Q7)[k*1]?=some (.int .i64 (Qd o k)):=by
 rw[ZH h];simp[h,Q7]
theorem Hl(h:k<o.length)(x:Int):Ym (o.map Q7) (0+k*1) [.int .i64 x] ((o.set k x).map Q7):=by
 have:=Ym.one (l:=o.map Q7) (n:=0+k*1) (v:=.int .i64 x) (by simpa using h);simpa[List.map_set,Q7]using this
structure QCH(a b:List Int) where
 i:Nat
 o:List Int
 le:i<=a.length
 h:Ha a b i 0 0 o 0
structure QCG(a b:List Int)(i:Nat) where
 j:Nat
 o:List Int
 c:Int
 le:j<=b.length
 h:Ha a b i j (Qd a i) o c
theorem W9(hF:Fits F w)(hA:JP F ra a)(hB:JP F rb b)(da:DG B9 a)(db:DG B9 b)(la:a.length<=100000000)(lb:b.length<=100000000):
  Ei prog 169 [ra.v,rb.v] w F (λl=>dv B9 l=dv B9 a*dv B9 b/\NZ l/\l.length<=a.length+b.length):=by
 obtain⟨q,n,c⟩:=ra;obtain⟨q',n',c'⟩:=rb;have na:=hA.2.1;have nb:=hB.2.1;dsimp only at na nb;have h9:B9=1000000000:=rfl;refine QU.intro (G:=λF=>JP F ⟨q,n,c⟩ a/\JP F ⟨q',n',c'⟩ b) func169 rfl wy rfl rfl hF (λF' hF'=>⟨hA.le hF',hB.le hF'⟩) ?_;dsimp only[Sr.v];refine wA 8 I<|QA (Qf I Qk)<|QF5 I<|QA (Qf I Qk)<|QA (Qm I I O)<|Dz (n:=n+n') (bytes:=8) rfl rfl Qk Qu BR I D7 O O λbk=>?_
 rw[show XP [Value.int .i64 0] (n+n')=(List.replicate (a.length+b.length) (0:Int)).map Q7 by rw[W3,na,nb];simp[Q7]];refine QHB 10 I ?_;refine Xf (ι:=QCH a b) (λi=>[(0,.slice q n c),(1,.slice q' n' c'),(5,.slice (some ⟨bk,0,none⟩) (n+n') (n+n')),(6,.int .i64 (i.i:Int))]) (λi=>[(bk,.cells (i.o.map Q7).toArray 3 (0,0))]) (λ_ F=>JP F ⟨q,n,c⟩ a/\JP F ⟨q',n',c'⟩ b) (λi=>a.length-i.i)
  ⟨0,_,Nat.zero_le _,Ha.start a b⟩ wV QGJ w9 λi=>?_
 have hile:=i.le;refine wA 5 I<|QA (Qf I Qk)<|QHB 3 I ?_
 refine QP I (λhc=>?_) λhc=>?_
 ·have hi:i.i<n:=wk<|QGx hc
  have hia:i.i<a.length:=O;refine Xe _ (λ_ _ f h=>h.1.1.ptr (by dsimp only;omega)) (λhq=>?_);obtain⟨qb,qo,hq⟩:=hq;dsimp only at hq;subst hq;refine QHC 16 I ?_;refine Xf (ι:=QCG a b i.i) (λi2=>[(0,.slice (some ⟨qb,qo,none⟩) n c),(1,.slice q' n' c'),(5,.slice (some ⟨bk,0,none⟩) (n+n') (n+n')),(6,.int .i64 (i.i:Int)),(7,.int .i64 i2.c),(8,.int .i64 (i2.j:Int))]) (λi2=>[(bk,.cells (i2.o.map Q7).toArray 3 (0,0))]) (λ_ F=>JP F ⟨some ⟨qb,qo,none⟩,n,c⟩ a/\JP F ⟨q',n',c'⟩ b) (λi2=>b.length-i2.j)
   ⟨0,i.o,0,Nat.zero_le _,i.h.next _⟩ wX QGJ w9 λi2=>?_
  have hjle:=i2.le;have hol:i2.o.length=a.length+b.length:=i2.h.1;have hcc:=i2.h.2.2.2.1;refine wA 5 I<|QA (Qf I Qk)<|QHB 3 I ?_
  refine QP I (λhc=>?_) λhc=>?_
  ·have hj:i2.j<n':=wk<|QGx hc
   have hjb:i2.j<b.length:=O;have hko:i.i+i2.j<i2.o.length:=O;have bx:=da.Qd JJ i.i;have by':=db.Qd JJ i2.j;have bo:=i2.h.2.1.Qd JJ (i.i+i2.j);have bd:=Lf bx by' bo hcc;have hst:=i2.h.step bx db hjb hia rfl;refine Xe _ (λ_ _ f h=>h.2.1.ptr (by dsimp only;omega)) (λhq=>?_);obtain⟨qb',qo',hq⟩:=hq;dsimp only at hq;subst hq;refine QHC 5 I<|JL QGJ mixed wm<|QL (QC I)<|QL (QC I)<|QL (QC I)<|QL (Qm I I O)<|QL (Qx (i:=i.i+i2.j) rfl rfl Qk Qu O)<|QL (YY (c:=i2.o.map Q7) (T':=3) rfl Qu .here (Ec hko))<|QL (QC I)<|QL (QC I)<|QL (Qx (i:=i.i) rfl rfl Qk Qu O)<|QL (XY (n:=n) (sz:=1) (cs:=a.map Q7) rfl Qu (λF h=>h.1.1) O (JH hia))<|QL (QC I)<|QL (QC I)<|QL (Qx (i:=i2.j) rfl rfl Qk Qu O)<|QL (XY (n:=n') (sz:=1) (cs:=b.map Q7) rfl Qu (λF h=>h.2.1) O (JH hjb))<|QL (Vm I I O)<|QL (Qm I I O)<|QL (QC I)<|QL (Qm I I O)<|QL (QF I) ?_
   refine Q3<|QHD 6 I<|QA (Qm I I O)<|QF5 I<|QA (KW I I O O)<|QA (Qx (i:=i.i+i2.j) rfl rfl Qk Qu O)<|QZ (vs:=[_]) I I I Qu I .here (Hl hko _) wS<|QHB 4 I<|QA (Wc I I O O O)<|wB 2 I<|Qi<|QHD 3 I<|QA (Qm I I O)<|QF6 I ?_
   refine QE ?_;exact Qj (⟨i2.j+1,i2.o.set (i.i+i2.j) _,_,O,hst⟩:QCG a b i.i) (by show b.length-(i2.j+1)<b.length-i2.j;omega) wX QGJ w9
  have hjn:i2.j=b.length:=wk<|QGy hc
  have hko2:i.i+n'<i2.o.length:=O;have hrow:Ha a b (i.i+1) 0 0 (i2.o.set (i.i+n') i2.c) 0:=by
   have e:=i2.h;rw[hjn]at e;have:=e.row hia rfl
   rwa [nb]at this
  have hz:Qd i2.o (i.i+n')=0:=i2.h.2.2.1 _ O;refine Qv ?_
  repeat first|refine QV ?_|refine QQ wy ?_
  refine QW<|QHD 5 I<|QA (Qf I Qk)<|QA (Qm I I O)<|wB 3 I<|QA (Qf I Qk)<|QA (Qm I I O)<|QA (Qx (i:=i.i+n') rfl rfl Qk Qu O)<|QA (YY (c:=i2.o.map Q7) (T':=3) rfl Qu .here (Ec hko2))<|QF5 I<|QA (Qm I I O)<|QA (Qx (i:=i.i+n') rfl rfl Qk Qu O)<|QZ (vs:=[_]) I I I Qu I .here (Hl hko2 _) wS<|QE<|Qi<|QHD 3 I<|QA (Qm I I O) ?_
  refine wB 2 I ?_;exact Qj (⟨i.i+1,i2.o.set (i.i+n') i2.c,O,hrow⟩:QCH a b) (by show a.length-(i.i+1)<a.length-i.i;omega) wV (by rw[hz,Int.zero_add];exact List.Sublist.refl _) w9
 refine Qv ?_
 repeat first|refine QV ?_|refine QQ wy ?_
 refine QW<|QD<|QG ?_
 have hex:a.length<=i.i:=wk<|QGy hc
 have hol:i.o.length=a.length+b.length:=i.h.1;have hr:Q6 3 1 (.slice (some ⟨bk,0,none⟩) (n+n') (n+n')) (n+n') (i.o.map Q7) [(bk,.cells (i.o.map Q7).toArray 3 (0,0))]:=by
  have:=Q6.some (T:=3) (sz:=1) (b:=bk) (n:=n+n') (cap:=n+n') (l:=i.o.map Q7) (rest:=[]) w6 w6 (Nat.le_refl _) (Nat.le_trans (show n+n'<=200000000 by omega) wu);simpa using this
 obtain⟨r,hv,hrn,hrc,hfix⟩:=Q6.fix (w0:=w) (F0:=F) (bs1:=[]) (G:=λF=>JP F ⟨q,n,c⟩ a/\JP F ⟨q',n',c'⟩ b) hr;have hlz:=Xp i.o;refine MS hfix ?_;rw[hv];refine wA 2 I<|QJ I (λ_ _ f k=>W8 (r:=r) (l:=i.o) f ⟨by rw[hrn];exact k.2,by rw[hrn];omega,O⟩ O) λc71=>wQ I<|QT ?_
 exact QO ((⟨r.q,(JA i.o).length,r.cap⟩,JA i.o):Sr×List Int) rfl (wN I) rfl λF h=>⟨h.2,i.h.2.1.JA,by show dv B9 (JA i.o)=_;rw[XG];exact i.h.stop hex,Xm _,by show(JA i.o).length<=_;omega⟩
structure QCZ(a:List Int)(d:Int) where
 k:Nat
 o:List Int
 r:Int
 le:k<=a.length
 len:o.length=a.length
 dg:DG B9 o
 r0:0<=r
 r1:r<d
 h:dv B9 (a.drop k)=d*dv B9 (o.drop k)+r
def set_drop{p:Nat}(h:p<o.length)(v:Int):(o.set p v).drop p=v::o.drop (p+1):=by
 rw[List.drop_eq_getElem_cons (by simpa using h)];congr 1
 ·simp
 rw[List.drop_set_of_lt O]
def vA{r x:Int}(r0:0<=r)(r1:r<d)(hd:d<B9)(hx:0<=x/\x<B9):0<=r*B9+x/\0<=(r*B9+x)/d/\(r*B9+x)/d<B9/\0<=(r*B9+x)%d/\(r*B9+x)%d<d:=by
 have h0:0<=r*B9:=Int.mul_nonneg r0 wu;refine⟨O,Int.ediv_nonneg O O,Int.ediv_lt_of_lt_mul O ?_,Int.emod_nonneg _ O,Int.emod_lt_of_pos _ O⟩;have h1:(r+1)*B9<=d*B9:=Int.mul_le_mul_of_nonneg_right O wu;rw[Int.add_mul,Int.one_mul]at h1;rw[Int.mul_comm B9 d];omega
theorem uX{r s:Int}{p:Nat}(hp:p<a.length)(ho:p<o.length)(h:dv B9 (a.drop (p+1))=d*dv B9 (o.drop (p+1))+r)(hs:s=r*B9+Qd a p):
  dv B9 (a.drop p)=d*dv B9 ((o.set p (s/d)).drop p)+s%d:=by
 rw[set_drop ho,List.drop_eq_getElem_cons hp,<-ZH hp];simp only[dv];rw[h];have e:s%d+d*(s/d)=s:=Int.emod_add_mul_ediv s d;generalize s/d=u at *
 generalize s%d=v at *
 generalize B9=B at *
 grind
theorem Ex(hF:Fits F w)(hA:JP F ra a)(da:DG B9 a)(la:a.length<=100000000)(d0:0<d)(d1:d<B9):
  QU prog 257 [ra.v,.int .i64 d] w F (λ(c:(Sr×List Int)×Int)=>.tuple [.slice c.1.1.q c.1.1.n c.1.1.cap,.int .i64 c.2].toArray) (λc F=>JP F c.1.1 c.1.2/\DG B9 c.1.2/\NZ c.1.2/\0<=c.2/\c.2<d/\dv B9 a=d*dv B9 c.1.2+c.2/\c.1.2.length<=a.length):=by
 obtain⟨q,n,c⟩:=ra;have na:=hA.2.1;dsimp only at na;have h9:B9=1000000000:=rfl;refine QU.intro (G:=λF=>JP F ⟨q,n,c⟩ a) func257 rfl wy rfl rfl hF (λF' hF'=>hA.le hF') ?_;dsimp only[Sr.v];refine wA 9 I<|QA (Qf I Qk)<|Dz (n:=n) (bytes:=8) rfl rfl Qk Qu BR I D7 O O λbk=>?_
 rw[show XP [Value.int .i64 0] n=(List.replicate a.length (0:Int)).map Q7 by rw[W3,na];simp[Q7]];refine QHB 12 I<|QA (Qf I Qk)<|QA (J1 I I O)<|wQ I<|QS ?_
 refine Xf (ι:=QCZ a d) (λi=>[(0,.slice q n c),(1,.int .i64 d),(6,.slice (some ⟨bk,0,none⟩) n n),(7,.int .i64 i.r),(8,.int .i64 ((i.k:Int)-1))]) (λi=>[(bk,.cells (i.o.map Q7).toArray 3 (0,0))]) (λ_ F=>JP F ⟨q,n,c⟩ a) (λi=>i.k)
  ⟨n,List.replicate a.length 0,0,O,wz,DG.replicate JJ _,Int.le_refl _,d0,by rw[List.drop_eq_nil_of_le O,List.drop_eq_nil_of_le w6];simp[dv]⟩ wW QGJ w9 λi=>?_
 have hile:=i.le;have hol:=i.len;have hr0:=i.r0;have hr1:=i.r1;refine wA 7 I ?_;refine QP I (λhc=>?_) λhc=>?_
 ·have hk0:0<i.k:=wk<|QGx hc
  have hka:i.k-1<a.length:=O;have hko:i.k-1<i.o.length:=O;have bx:=da.Qd JJ (i.k-1);have bd:=vA hr0 hr1 d1 bx;rw[h9]at bd;have hst:=uX (d:=d) (r:=i.r) (s:=i.r*1000000000+Qd a (i.k-1)) hka hko (by rw[show i.k-1+1=i.k by omega];exact i.h) rfl;refine Xe _ (λ_ _ f h=>h.1.ptr (by dsimp only;omega)) (λhq=>?_);obtain⟨qb,qo,hq⟩:=hq;dsimp only at hq;subst hq;refine QHC 7 I<|QA (Vm I I O)<|wB 2 I<|QA (Qx (i:=i.k-1) rfl wM Qk Qu O)<|QA (XY (n:=n) (sz:=1) (cs:=a.map Q7) rfl Qu tA O (JH hka))<|QA (Qm I I O)<|QHB 9 I<|QA (Wc I I O O O)<|QA (Qx (i:=i.k-1) rfl wM Qk Qu O)<|QZ (vs:=[_]) I I I Qu I .here (Hl hko _) wS ?_
  refine QHB 5 I<|QA (KW I I O O)<|wB 2 I<|Qi<|QHD 3 I<|QA (J1 I I O)<|wB 2 I ?_
  exact Qj (⟨i.k-1,i.o.set (i.k-1) ((i.r*1000000000+Qd a (i.k-1))/d),(i.r*1000000000+Qd a (i.k-1))%d,O,by simpa using hol,i.dg.set _ bd.2.1 bd.2.2.1,bd.2.2.2.1,bd.2.2.2.2,hst⟩:QCZ a d) (by show i.k-1<i.k;omega) ⟨rfl,rfl,rfl,rfl,congrArg (λz:Int=>some (Value.int .i64 z)) (by dsimp only;omega),trivial⟩ QGJ w9
 refine Qv ?_
 repeat first|refine QV ?_|refine QQ wy ?_
 refine QW<|QD<|QG ?_
 have hex:i.k=0:=wk<|QGy hc
 have hr:Q6 3 1 (.slice (some ⟨bk,0,none⟩) n n) n (i.o.map Q7) [(bk,.cells (i.o.map Q7).toArray 3 (0,0))]:=by
  have:=Q6.some (T:=3) (sz:=1) (b:=bk) (n:=n) (cap:=n) (l:=i.o.map Q7) (rest:=[]) w6 w6 (Nat.le_refl _) (Nat.le_trans (show n<=200000000 by omega) wu);simpa using this
 obtain⟨r,hv,hrn,hrc,hfix⟩:=Q6.fix (w0:=w) (F0:=F) (bs1:=[]) (G:=λF=>JP F ⟨q,n,c⟩ a) hr;have hlz:=Xp i.o;have hfin:=i.h;rw[hex,List.drop_zero,List.drop_zero]at hfin;refine MS hfix ?_;rw[hv];refine wA 2 I<|QJ I (λ_ _ f k=>W8 (r:=r) (l:=i.o) f ⟨by rw[hrn];exact k.2,by rw[hrn];omega,O⟩ O) λc37=>QHB 6 I ?_
 exact J9 (((⟨r.q,(JA i.o).length,r.cap⟩,JA i.o),i.r):(Sr×List Int)×Int) rfl (wO I I) rfl λF h=>⟨h.2,i.dg.JA,Xm _,hr0,hr1,by show _=d*dv B9 (JA i.o)+i.r;rw[XG];exact hfin,by show(JA i.o).length<=_;omega⟩
theorem uT{v:List Int}{t r:Int}(h:V1 B9 u v n)(t0:0<=t)(e:t*Qd v (n+1)+r=Qd u (n+2)*B9+Qd u (n+1))(hc:r*B9+Qd u n<t*Qd v n):dv B9 u<t*dv B9 v:=by
 obtain⟨a1,a2,a3⟩:=Z9 (b:=B9) wu h.hu h.lu;obtain⟨b1,b2,b3⟩:=KX (b:=B9) wu h.hv h.lv;rw[a1,b1];refine PX b2 a3 (pow_pos JJ n) t0 ?_;rw[<-e];generalize B9=B at *
 grind
theorem QBb{v:List Int}{t:Int}(h:V1 B9 u v n)(ht:B9<=t):dv B9 u<t*dv B9 v:=by
 have h0:=Q4 (b:=B9) wu h.hv;have h1:B9*dv B9 v<=t*dv B9 v:=Int.mul_le_mul_of_nonneg_right ht h0;have:=h.lt;omega
theorem ki{v:List Int}{t:Int}(h:V1 B9 u v n)(t0:0<=t)(ht:Qd u (n+2)*B9+Qd u (n+1)<(t+1)*Qd v (n+1)):dv B9 u<(t+1)*dv B9 v:=by
 obtain⟨a1,a2,a3⟩:=Z9 (b:=B9) wu h.hu h.lu;obtain⟨b1,b2,b3⟩:=KX (b:=B9) wu h.hv h.lv;rw[a1,b1];refine PX b2 a3 (pow_pos JJ n) O ?_;have d1:=h.hu.Qd JJ n;have d2:=h.hv.Qd JJ n;have e1:0<=(t+1)*Qd v n:=Int.mul_nonneg O d2.1;have e2:(Qd u (n+2)*B9+Qd u (n+1)+1)*B9<=(t+1)*Qd v (n+1)*B9:=Int.mul_le_mul_of_nonneg_right O wu;generalize B9=B at *
 generalize Qd u (n+2)=u0 at *
 generalize Qd u (n+1)=u1 at *
 generalize Qd u n=u2 at *
 generalize Qd v (n+1)=v1 at *
 generalize Qd v n=v2 at *
 grind
theorem dF{v:List Int}{t r:Int}(h:V1 B9 u v n)(t0:0<=t)(t1:t<B9)(e:t*Qd v (n+1)+r=Qd u (n+2)*B9+Qd u (n+1))(hc:t*Qd v n<=r*B9+Qd u n):(t-1)*dv B9 v<=dv B9 u:=by
 obtain⟨a1,a2,a3⟩:=Z9 (b:=B9) wu h.hu h.lu;obtain⟨b1,b2,b3⟩:=KX (b:=B9) wu h.hv h.lv;rw[a1,b1];have d2:=h.hv.Qd JJ n;have d3:1*B9<=Qd v (n+1)*B9:=Int.mul_le_mul_of_nonneg_right (wk h.nz) wu;refine Ag (pow_pos JJ n) b3 a2 t0 ?_ O b2;rw[<-e];generalize B9=B at *
 grind
def Zu(h:k<o.length):(o.map Q7++rest)[0+k*1]?=some (.int .i64 (Qd o k)):=by
 rw[List.getElem?_append,if_pos w6];exact Ec h
def yu{l vs l':List Value}(h:Ym l n vs l'):Ym (l++rest) n vs (l'++rest):=by
 induction h with
 |nil=>exact .nil
 |here h ih=>exact .here ih
 |skip h ih=>exact .skip ih
def Vn(h:k<o.length)(x:Int):Ym (o.map Q7++rest) (0+k*1) [.int .i64 x] ((o.set k x).map Q7++rest):=yu (Hl h x)
def OC(u v:List Int)(t:Int):Prop:=0<=t/\t<B9/\(t-1)*dv B9 v<=dv B9 u/\dv B9 u<(t+1)*dv B9 v
structure GuI(u v:List Int)(m:Nat) where
 t:Int
 r:Int
 t0:0<=t
 r0:0<=r
 r1:r<B9
 t2:t<=1000000000000000000
 e:t*Qd v (m+1)+r=Qd u (m+2)*B9+Qd u (m+1)
 h:dv B9 u<(t+1)*dv B9 v
theorem Px{U:List Int}{j m:Nat}(h:k<m):Qd ((U.drop j).take m) k=Qd U (j+k):=by
 by_cases g:j+k<U.length
 ·rw[ZH w6,ZH g];simp
 rw[G7 w6,G7 O]
def Lt{v:List Int}{t r:Int}(h:V1 B9 u v n)(t0:0<=t)(e:t*Qd v (n+1)+r=Qd u (n+2)*B9+Qd u (n+1))(hr:B9<=r)(hu:dv B9 u<(t+1)*dv B9 v):OC u v t:=by
 have ht:=h.top wu;have d0:=h.hu.Qd JJ n;have d1:=h.hu.Qd JJ (n+1);have d2:=h.hv.Qd JJ n;have hn:=h.nz;have e1:Qd u (n+2)*B9<=Qd v (n+1)*B9:=Int.mul_le_mul_of_nonneg_right ht wu;have t1:t<B9:=by
  refine Int.not_le.1 λhc=>?_;have e2:B9*Qd v (n+1)<=t*Qd v (n+1):=Int.mul_le_mul_of_nonneg_right hc O;rw[Int.mul_comm]at e2;omega
 refine⟨t0,t1,dF h t0 t1 e ?_,hu⟩;have e3:t*Qd v n<=B9*B9:=Int.mul_le_mul O O d2.1 wu;have e4:B9*B9<=r*B9:=Int.mul_le_mul_of_nonneg_right hr wu;omega
theorem Sb{v:List Int}{t:Int}(hu:DG B9 u)(t0:0<=t)(h:dv B9 u<t*dv B9 v):0<=t-1:=by
 have:=Q4 (b:=B9) wu hu;rcases Int.lt_or_le 0 t with g | g
 ·omega
 have e:t=0:=O;subst e;rw[Int.zero_mul]at h;omega
theorem q8{w0:World}{F0:Gs}{G:Gs->Prop}{bs:List (Nat×Obj)}{bu nu cu j m:Nat}{rv:Sr}{U v:List Int}(hU:U.length=nu)(hj:j+m+3<=nu)(hn:nu<=1000000000)(hG:∀F,G F->JP F rv v)(hS:V1 B9 ((U.drop j).take (m+3)) v m):
  J8 prog 259 [.slice (some ⟨bu,0,none⟩) nu cu,rv.v,.int .i64 (j:Int)] ⟨w0,F0,(bu,.cells (U.map Q7++rest).toArray 3 (0,0))::bs,G⟩ (λt:Int=>.int .i64 t) (λt=>⟨w0,F0,(bu,.cells (U.map Q7++rest).toArray 3 (0,0))::bs,λF=>G F/\OC ((U.drop j).take (m+3)) v t⟩):=by
 obtain⟨q,n,c⟩:=rv;have hlv:=hS.lv;have h9:B9=1000000000:=rfl;have u2:Qd ((U.drop j).take (m+3)) (m+2)=Qd U (j+(m+2)):=Px O;have u1:Qd ((U.drop j).take (m+3)) (m+1)=Qd U (j+(m+1)):=Px O;have u0:Qd ((U.drop j).take (m+3)) m=Qd U (j+m):=Px O;have b2:=hS.hu.Qd JJ (m+2);have b1:=hS.hu.Qd JJ (m+1);have b0:=hS.hu.Qd JJ m;have c1:=hS.hv.Qd JJ (m+1);have c0:=hS.hv.Qd JJ m;have nz:=hS.nz;refine J8.intro func259 rfl rfl rfl rfl ?_;dsimp only[Sr.v];refine Xe _ (λ_ F f h=>(hG F h).2.1) (λhnv=>?_);dsimp only at hnv;obtain rfl:n=m+2:=O;refine Xe _ (λ_ F f h=>(hG F h).1.ptr (by dsimp only;omega)) (λhq=>?_);obtain⟨qb,qo,hq⟩:=hq;dsimp only at hq;subst hq;refine wA 8 I<|QA (Qf I Qk)<|wQ I<|QG<|JL QGJ mixed wm<|QL (QC I)<|QL (QC I)<|QL (QC I)<|QL (Qm I I O)<|QL (Qx (i:=j+(m+2)) I wM Qk Qu O)<|QL (YY (v:=.int .i64 (Qd ((U.drop j).take (m+3)) (m+2))) (c:=U.map Q7++rest) (T':=3) rfl Qu .here (by rw[u2];exact Zu O))<|QL (Vm I I O)<|QL (QC I)<|QL (QC I)<|QL (QC I)<|QL (Qm I I O) ?_
 refine QL (J1 I I O)<|QL (Qx (i:=j+(m+1)) I wM Qk Qu O)<|QL (YY (v:=.int .i64 (Qd ((U.drop j).take (m+3)) (m+1))) (c:=U.map Q7++rest) (T':=3) rfl Qu .here (by rw[u1];exact Zu O))<|QL (Qm I I O)<|QL (QF I)<|Q3<|QD<|QG<|JL QGJ mixed wm<|QL (QC I)<|QL (QC I)<|QL (QC I)<|QL (J1 I I O)<|QL (Qx (i:=m+1) rfl wM Qk Qu O)<|QL (XY (n:=m+2) (sz:=1) (cs:=v.map Q7) rfl Qu (λF h=>(hG F h).1) O (JH (show m+1<v.length by omega)))<|QL (Wc I I O O O)<|QL (QC I)<|QL (QC I)<|QL (QC I)<|QL (J1 I I O)<|QL (Qx (i:=m+1) rfl wM Qk Qu O)<|QL (XY (n:=m+2) (sz:=1) (cs:=v.map Q7) rfl Qu (λF h=>(hG F h).1) O (JH (show m+1<v.length by omega)))<|QL (KW I I O O)<|QL (QF I)<|QL (QF I) ?_
 refine Q3<|QHD 3 I ?_
 refine Xf (ι:=GuI ((U.drop j).take (m+3)) v m) (λi=>[(0,.slice (some ⟨bu,0,none⟩) nu cu),(1,.slice (some ⟨qb,qo,none⟩) (m+2) c),(2,.int .i64 (j:Int)),(7,.int .i64 ((m+2:Nat):Int)),(9,.int .i64 i.t),(10,.int .i64 i.r)]) (λ_=>(bu,.cells (U.map Q7++rest).toArray 3 (0,0))::bs) (λ_=>G) (λi=>i.t.toNat)
  ⟨(Qd ((U.drop j).take (m+3)) (m+2)*1000000000+Qd ((U.drop j).take (m+3)) (m+1))/Qd v (m+1),(Qd ((U.drop j).take (m+3)) (m+2)*1000000000+Qd ((U.drop j).take (m+3)) (m+1))%Qd v (m+1),Int.ediv_nonneg O O,Int.emod_nonneg _ O,Int.lt_trans (Int.emod_lt_of_pos _ nz) c1.2,Int.le_trans (Int.ediv_le_self (a:=(Qd ((U.drop j).take (m+3)) (m+2)*1000000000+Qd ((U.drop j).take (m+3)) (m+1))) _ O) O,by rw[Int.mul_comm,Int.add_comm];exact Int.emod_add_mul_ediv _ _,ki hS (Int.ediv_nonneg O O) (Int.lt_ediv_add_one_mul_self _ nz)⟩ wX QGJ w9 λi=>?_
 have t0:=i.t0;have r0:=i.r0;have r1:=i.r1;have t2:=i.t2;refine QG<|QG<|JL QGJ mixed wm<|QL (QC I)<|QL (QN I I I)<|QL (QC I) ?_
 refine Kz (t:=44) rfl (λhb44=>?_) λhb44=>?_
 ·refine Q8 I I I<|Q8 I I I<|Q8 I I I<|Q8 I I I<|Q8 I I I<|Q8 I I I<|Q8 I I I<|Q8 I I I<|Q8 I I I<|Q8 I I I<|Q8 I I I<|Q8 I I I<|Q8 I I I<|Q8 I I I<|Q8 I I I<|Q8 I I I<|Q8 I I I<|Q8 I I I<|QL (Qa I I I)<|Q3<|QD<|K6 I ?_
  have hl:dv B9 ((U.drop j).take (m+3))<i.t*dv B9 v:=QBb hS (wk<|QGx hb44);refine QHC 6 I<|QA (J1 I I O)<|QHB 8 I<|QA (J1 I I O)<|QA (Qx (i:=m+1) rfl wM Qk Qu O)<|QA (XY (n:=m+2) (sz:=1) (cs:=v.map Q7) rfl Qu (λF h=>(hG F h).1) O (JH (show m+1<v.length by omega)))<|QA (Qm I I O)<|QHB 6 I ?_
  refine QHB 3 I ?_;refine QP I (λhc=>?_) λhc=>?_
  ·refine wA 7 I ?_
   repeat first|refine Qw ?_|refine Qp ?_
   exact Z2 (i.t-1) rfl (wN I) rfl λw h=>h.imp QGJ λF h=>⟨h,Lt (r:=i.r+Qd v (m+1)) hS (Sb hS.hu t0 hl) (by rw[Int.sub_mul,Int.one_mul,<-i.e];omega) (wk<|QGx hc) (by rw[Int.sub_add_cancel];exact hl)⟩
  refine QM<|Qi ?_
  exact Qj (⟨i.t-1,i.r+Qd v (m+1),(Sb hS.hu t0 hl),O,wk<|QGy hc,O,(by rw[Int.sub_mul,Int.one_mul,<-i.e];omega),(by rw[Int.sub_add_cancel];exact hl)⟩:GuI ((U.drop j).take (m+3)) v m) (by show(i.t-1).toNat<i.t.toNat;have:=(Sb hS.hu t0 hl);omega) wX QGJ w9
 have tb:i.t<B9:=wk<|QGy hb44
 have p0:0<=i.t*Qd v m:=Int.mul_nonneg t0 c0.1;have p1:i.t*Qd v m<=1000000000*1000000000:=Int.mul_le_mul O O c0.1 wu;refine JM I I<|QL (QC I)<|JM I I<|QL (QC I)<|JM I I<|QL (QC I)<|JM I I<|QL (J1 I I O)<|JM I I<|QL (Qx (i:=m) rfl wM Qk Qu O)<|JM I I<|QL (XY (n:=m+2) (sz:=1) (cs:=v.map Q7) rfl Qu (λF h=>(hG F h).1) O (JH (show m<v.length by omega)))<|JM I I<|QL (Vm I I O)<|JM I I<|QL (QC I)<|JM I I<|QL (Vm I I O)<|JM I I<|QL (QC I)<|JM I I<|QL (QC I)<|JM I I<|QL (QC I)<|JM I I ?_
 refine QL (Qm I I O)<|JM I I<|QL (J1 I I O)<|JM I I<|QL (Qx (i:=j+m) rfl wM Qk Qu O)<|JM I I<|QL (YY (v:=.int .i64 (Qd ((U.drop j).take (m+3)) (m))) (c:=U.map Q7++rest) (T':=3) rfl Qu .here (by rw[u0];exact Zu O))<|JM I I<|QL (Qm I I O)<|JM I I<|QL (QN I I I)<|QL (QY I I I)<|Q3<|QD ?_
 refine QP I (λhc=>?_) λhc=>?_
 ·have hl:dv B9 ((U.drop j).take (m+3))<i.t*dv B9 v:=uT hS t0 i.e (by have:=QGx hc;rw[h9];omega);refine QHC 6 I<|QA (J1 I I O)<|QHB 8 I<|QA (J1 I I O)<|QA (Qx (i:=m+1) rfl wM Qk Qu O)<|QA (XY (n:=m+2) (sz:=1) (cs:=v.map Q7) rfl Qu (λF h=>(hG F h).1) O (JH (show m+1<v.length by omega)))<|QA (Qm I I O)<|QHB 6 I ?_
  refine QHB 3 I ?_;refine QP I (λhc=>?_) λhc=>?_
  ·refine wA 7 I ?_
   repeat first|refine Qw ?_|refine Qp ?_
   exact Z2 (i.t-1) rfl (wN I) rfl λw h=>h.imp QGJ λF h=>⟨h,Lt (r:=i.r+Qd v (m+1)) hS (Sb hS.hu t0 hl) (by rw[Int.sub_mul,Int.one_mul,<-i.e];omega) (wk<|QGx hc) (by rw[Int.sub_add_cancel];exact hl)⟩
  refine QM<|Qi ?_
  exact Qj (⟨i.t-1,i.r+Qd v (m+1),(Sb hS.hu t0 hl),O,wk<|QGy hc,O,(by rw[Int.sub_mul,Int.one_mul,<-i.e];omega),(by rw[Int.sub_add_cancel];exact hl)⟩:GuI ((U.drop j).take (m+3)) v m) (by show(i.t-1).toNat<i.t.toNat;have:=(Sb hS.hu t0 hl);omega) wX QGJ w9
 refine Qv ?_
 repeat first|refine QV ?_|refine QQ wy ?_
 refine QW<|QHD 8 I ?_
 exact Z2 (i.t) rfl (wN I) rfl λw h=>h.imp QGJ λF h=>⟨h,⟨t0,tb,dF hS t0 tb i.e (by have:=QGy hc;rw[h9];omega),i.h⟩⟩
end Go.Proofs.YtpmehagnedbkhaaGreatDoor
namespace Ig
structure Rl(b:Int)(U v:List Int)(j:Nat)(t:Int)(i:Nat)(U':List Int)(br:Int):Prop where
 len:U'.length=U.length
 dg:DG b U'
 lo:U'.take j=U.take j
 hi:U'.drop (j+i)=U.drop (j+i)
 br0:0<=br
 br1:br<=b
 h:dv b U'+b^j*(t*dv b (v.take i))=dv b U+b^(j+i)*br
def Rl.start{b:Int}(hb:0<=b){U v:List Int}(hU:DG b U)(j:Nat)(t:Int):Rl b U v j t 0 U 0 :=
 ⟨rfl,hU,rfl,rfl,Int.le_refl _,hb,wz⟩
def xP{l:List Int}{p k:Nat}:Qd (l.drop p) k=Qd l (p+k):=by
 by_cases g:p+k<l.length
 ·rw[ZH w6,ZH g];simp
 rw[G7 w6,G7 O]
def Zf{l m:List Int}{p q:Nat}(h:l.drop p=m.drop p)(hq:p<=q):Qd l q=Qd m q:=by
 have:=congrArg (λx=>Qd x (q-p)) h;simp only[xP]at this;rw[show p+(q-p)=q by omega]at this;exact this
def yR{b t x br:Int}(hb:1<b)(ht:0<=t/\t<b)(hx:0<=x/\x<b)(h:0<=br/\br<=b):0<=t*x/\t*x<=(b-1)*(b-1)/\0<=(t*x+br)/b/\(t*x+br)/b<b:=by
 have h0:=Int.mul_nonneg ht.1 hx.1;have h1:t*x<=(b-1)*(b-1):=Int.mul_le_mul O O hx.1 O;refine⟨h0,h1,Int.ediv_nonneg O O,Int.ediv_lt_of_lt_mul O ?_⟩;have e:(b-1)*(b-1)=b*b-2*b+1:=by grind
 omega
def Rl.step{b:Int}{U v U':List Int}{j i:Nat}{t br x br':Int}(h:Rl b U v j t i U' br)(hj:j+i<U.length)
  (hx:0<=x/\x<b) (hbr:br'<=b/\0<=br') (e:x-b*br'=Qd U (j+i)-(t*Qd v i+br)):Rl b U v j t (i+1) (U'.set (j+i) x) br':=by
 obtain⟨h1,h2,h3,h4,h5,h6,h7⟩:=h;have hd:Qd U' (j+i)=Qd U (j+i):=Zf h4 (Nat.le_refl _);refine⟨by simpa using h1,h2.set _ hx.1 hx.2,?_,?_,hbr.2,hbr.1,?_⟩
 ·rw[List.take_set_of_le O];exact h3
 ·rw[List.drop_set_of_lt O,<-Nat.add_assoc,<-List.drop_drop,h4,List.drop_drop]
 rw[G6 b O,hd,Vt,<-Nat.add_assoc,Int.pow_succ];have e':b^(j+i)*(x-b*br')=b^(j+i)*(Qd U (j+i)-(t*Qd v i+br)):=by rw[e]
 rw[Int.pow_add]at *
 generalize b^i=p at *
 generalize b^j=q at *
 grind
structure Tx(b:Int)(U v:List Int)(j n:Nat)(t:Int)(U':List Int)(top:Int):Prop where
 len:U'.length=U.length
 dg:DG b (U'.set (j+n) 0)
 lo:U'.take j=U.take j
 hi:U'.drop (j+n+1)=U.drop (j+n+1)
 tp:Qd U' (j+n)=top
 h:dv b U'=dv b U-b^j*(t*dv b v)
def Rl.stop{b:Int}(hb:1<b){U v U':List Int}{j n:Nat}{t br:Int}(h:Rl b U v j t n U' br)(hn:v.length=n)(hj:j+n<U.length):Tx b U v j n t (U'.set (j+n) (Qd U (j+n)-br)) (Qd U (j+n)-br):=by
 obtain⟨h1,h2,h3,h4,h5,h6,h7⟩:=h;have hd:Qd U' (j+n)=Qd U (j+n):=Zf h4 (Nat.le_refl _);refine⟨by simpa using h1,?_,?_,?_,?_,?_⟩
 ·rw[List.set_set];exact h2.set _ (Int.le_refl _) O
 ·rw[List.take_set_of_le O];exact h3
 ·rw[List.drop_set_of_lt O,<-List.drop_drop,h4,List.drop_drop]
 ·rw[K4 O,if_pos rfl]
 rw[G6 b O,hd];rw[List.take_of_length_le O]at h7;generalize b^(j+n)=p at *
 generalize b^j=q at *
 grind
def ZG(b:Int)(l:List Int)(j:Nat):dv b l=dv b (l.take j)+b^j*dv b (l.drop j):=by
 by_cases h:j<=l.length
 ·exact Ks b l j h
 rw[List.take_of_length_le O,List.drop_of_length_le O];simp
def Tx.part{b:Int}(hb:0<b){U v U':List Int}{j n:Nat}{t top:Int}(h:Tx b U v j n t U' top):dv b (U'.drop j)=dv b (U.drop j)-t*dv b v:=by
 have e:=h.h;rw[ZG b U' j,ZG b U j,h.lo]at e;have hp:=pow_pos hb j;have e2:b^j*dv b (U'.drop j)=b^j*(dv b (U.drop j)-t*dv b v):=by
  rw[Int.mul_sub];generalize b^j*dv b (U'.drop j)=x at *;generalize b^j*dv b (U.drop j)=y at *;omega
 exact Int.eq_of_mul_eq_mul_left O e2
def Es{l:List Int}{j n:Nat}(h:j+n<l.length):l.drop j=(l.drop j).take n++Qd l (j+n)::l.drop (j+n+1):=by
 have e:(l.drop j).drop n=Qd l (j+n)::l.drop (j+n+1):=by
  rw[List.drop_drop,XH h]
 rw[<-e,List.take_append_drop]
def O2{b:Int}(hb:1<b){U:List Int}{k n:Nat}(hU:DG b U)(h:dv b (U.drop k)<b^n):dv b (U.drop (k+n))=0:=by
 have e:=ZG b (U.drop k) n;rw[List.drop_drop]at e;have h1:=Q4 (b:=b) O ((hU.drop k).take n);have h2:=Q4 (b:=b) O (hU.drop (k+n));have hp:=pow_pos (b:=b) O n;rcases Int.lt_or_le 0 (dv b (U.drop (k+n)))with g | g
 ·have:b^n*1<=b^n*dv b (U.drop (k+n)):=Int.mul_le_mul_of_nonneg_left O O;rw[Int.mul_one]at this;omega
 omega
def Tx.sign{b:Int}(hb:1<b){U v U':List Int}{j n:Nat}{t top:Int}(h:Tx b U v j n t U' top)(hz:dv b (U.drop (j+n+1))=0)(hj:j+n<U.length):
  ∃lo,0<=lo/\lo<b^n/\dv b (U'.drop j)=lo+b^n*top:=by
 have hlen:=h.len;have hw:=Es (l:=U') (j:=j) (n:=n) O;refine⟨dv b ((U'.drop j).take n),?_,?_,?_⟩
 ·have:DG b ((U'.drop j).take n):=by
   have:=((h.dg.drop j).take n);rw[List.drop_set,if_neg O,Nat.add_sub_cancel_left,List.take_set_of_le (Nat.le_refl _)]at this;exact this
  exact Q4 O this
 ·have:DG b ((U'.drop j).take n):=by
   have:=((h.dg.drop j).take n);rw[List.drop_set,if_neg O,Nat.add_sub_cancel_left,List.take_set_of_le (Nat.le_refl _)]at this;exact this
  have h2:=YB (by omega:0<b) this;rw[show((U'.drop j).take n).length=n by simp;omega]at h2;exact h2
 have e:=congrArg (dv b) hw;rw[ZV,Yb,h.hi,hz,h.tp,show((U'.drop j).take n).length=n by simp;omega]at e;simpa using e
def Tx.uV{b:Int}(hb:1<b){U v U':List Int}{j n:Nat}{t top:Int}(h:Tx b U v j n t U' top)(hj:j+n<U.length)(h0:0<=top)(ht:top<b)
  (g:dv b (U.drop j)<(t+1)*dv b v):DG b U'/\dv b (U'.drop j)<dv b v/\dv b U'=dv b U-b^j*(t*dv b v):=by
 have hp:=h.part O;refine⟨?_,?_,h.h⟩
 ·have e:U'=(U'.set (j+n) 0).set (j+n) top:=by
   rw[List.set_set];have:=h.tp;rw[ZH (by rw[h.len];exact hj)]at this;rw[<-this,List.set_getElem_self]
  rw[e];exact h.dg.set _ h0 ht
 rw[hp];rw[Int.add_mul,Int.one_mul]at g;omega
structure D5(b:Int)(U v:List Int)(j n i:Nat)(U':List Int)(c:Int):Prop where
 len:U'.length=U.length
 dg:DG b (U'.set (j+n) 0)
 lo:U'.take j=U.take j
 hi:U'.drop (j+i)=U.drop (j+i)
 c0:0<=c
 c1:c<=1
 h:dv b U'+b^(j+i)*c=dv b U+b^j*dv b (v.take i)
def D5.start{b:Int}{U v:List Int}{j n:Nat}(hU:DG b (U.set (j+n) 0)):D5 b U v j n 0 U 0 :=
 ⟨rfl,hU,rfl,rfl,Int.le_refl _,O,wz⟩
def D5.step{b:Int}{U v U':List Int}{j n i:Nat}{c x c':Int}(h:D5 b U v j n i U' c)(hi:i<n)(hj:j+n<U.length)
  (hx:0<=x/\x<b) (hc:0<=c'/\c'<=1) (e:x+b*c'=Qd U (j+i)+Qd v i+c):D5 b U v j n (i+1) (U'.set (j+i) x) c':=by
 obtain⟨h1,h2,h3,h4,h5,h6,h7⟩:=h;have hd:Qd U' (j+i)=Qd U (j+i):=Zf h4 (Nat.le_refl _);refine⟨by simpa using h1,?_,?_,?_,hc.1,hc.2,?_⟩
 ·rw[List.set_comm _ _ O];exact h2.set _ hx.1 hx.2
 ·rw[List.take_set_of_le O];exact h3
 ·rw[List.drop_set_of_lt O,<-Nat.add_assoc,<-List.drop_drop,h4,List.drop_drop]
 rw[G6 b O,hd,Vt,<-Nat.add_assoc,Int.pow_succ];have e':b^(j+i)*(x+b*c')=b^(j+i)*(Qd U (j+i)+Qd v i+c):=by rw[e]
 rw[Int.pow_add]at *
 generalize b^i=p at *
 generalize b^j=q at *
 grind
def D5.Qd{b:Int}(hb:1<b){U v U':List Int}{j n i:Nat}{c:Int}(h:D5 b U v j n i U' c)(hi:i<n):0<=Qd U' (j+i)/\Qd U' (j+i)<b:=by
 have:=h.dg.Qd O (j+i);by_cases g:j+n<U'.length
 ·rw[K4 g,if_neg O]at this;exact this
 rw[List.set_eq_of_length_le O]at this;exact this
def D5.uV{b:Int}(hb:1<b){U v U1 U':List Int}{j n:Nat}{t top c:Int}(h:D5 b U1 v j n n U' c)(hs:Tx b U v j n t U1 top)(hU:DG b U)(hv:DG b v)(hn:v.length=n)(hz:dv b (U.drop (j+n+1))=0)(hj:j+n<U.length)(h0:top<0)
  (g:(t-1)*dv b v<=dv b (U.drop j)):DG b (U'.set (j+n) (top+c))/\dv b ((U'.set (j+n) (top+c)).drop j)<dv b v/\dv b (U'.set (j+n) (top+c))=dv b U-b^j*((t-1)*dv b v)/\0<=t-1/\(U'.set (j+n) (top+c)).length=U.length:=by
 obtain⟨lo,l0,l1,l2⟩:=hs.sign hb hz hj;have hp:=hs.part O;have hlen:=hs.len;obtain⟨a1,a2,a3,a4,a5,a6,a7⟩:=h;have hd:Ig.Qd U' (j+n)=top:=by rw[Zf a4 (Nat.le_refl _),hs.tp]
 rw[List.take_of_length_le O]at a7;have hv0:=Q4 (b:=b) O hv;have hv1:=YB (b:=b) O hv;rw[hn]at hv1;have hB:=pow_pos (b:=b) O n;have hw:dv b (U'.set (j+n) (top+c))=dv b U-b^j*((t-1)*dv b v):=by
  rw[G6 b O,hd];have e:=hs.h;generalize b^(j+n)=p at *
  generalize b^j=q at *
  grind
 have hlo:(U'.set (j+n) (top+c)).take j=U.take j:=by
  rw[List.take_set_of_le O,a3,hs.lo]
 have hpart:dv b ((U'.set (j+n) (top+c)).drop j)=dv b (U.drop j)-(t-1)*dv b v:=by
  have e:=hw;rw[ZG b _ j,ZG b U j,hlo]at e;have hq:=pow_pos (b:=b) O j;have e2:b^j*dv b ((U'.set (j+n) (top+c)).drop j)=b^j*(dv b (U.drop j)-(t-1)*dv b v):=by
   rw[Int.mul_sub];generalize b^j*dv b ((U'.set (j+n) (top+c)).drop j)=x at *;generalize b^j*dv b (U.drop j)=y at *;omega
  exact Int.eq_of_mul_eq_mul_left O e2
 have hneg:dv b (U1.drop j)<0:=by
  rw[l2];have:b^n*top<=b^n*(-1):=Int.mul_le_mul_of_nonneg_left O O;omega
 have hlt:dv b ((U'.set (j+n) (top+c)).drop j)<dv b v:=by
  rw[hpart,Int.sub_mul,Int.one_mul];omega
 have hge:0<=dv b ((U'.set (j+n) (top+c)).drop j):=by rw[hpart];omega
 have hsd:dv b ((U'.set (j+n) (top+c)).drop j)=dv b ((U'.drop j).take n)+b^n*(top+c):=by
  have hw2:=congrArg (dv b) (Es (l:=U'.set (j+n) (top+c)) (j:=j) (n:=n) w6);have e3:(U'.set (j+n) (top+c)).drop (j+n+1)=U'.drop (j+n+1):=List.drop_set_of_lt O;rw[ZV,Yb,K4 (show j+n<U'.length by omega),if_pos rfl,e3]at hw2;have:dv b (U'.drop (j+n+1))=0:=by
   rw[<-List.drop_drop,a4,List.drop_drop,hs.hi];exact hz
  have e2:((U'.set (j+n) (top+c)).drop j).take n=(U'.drop j).take n:=by
   rw[List.drop_set,if_neg O,Nat.add_sub_cancel_left,List.take_set_of_le (Nat.le_refl _)]
  rw[this,e2,show((U'.drop j).take n).length=n by simp;omega]at hw2;simpa using hw2
 have hdg:DG b ((U'.drop j).take n):=by
  have:=((a2.drop j).take n);rw[List.drop_set,if_neg O,Nat.add_sub_cancel_left,List.take_set_of_le (Nat.le_refl _)]at this;exact this
 have d0:=Q4 (b:=b) O hdg;have d1:=YB (b:=b) O hdg;rw[show((U'.drop j).take n).length=n by simp;omega]at d1;have ht0:top+c=0:=by
  rw[hsd]at hlt hge;have q1:¬1<=top+c:=λq=>by
   have:b^n*1<=b^n*(top+c):=Int.mul_le_mul_of_nonneg_left q O;omega
  have q2:¬top+c<=-1:=λq=>by
   have:b^n*(top+c)<=b^n*(-1):=Int.mul_le_mul_of_nonneg_left q O;omega
  omega
 refine⟨?_,hlt,hw,?_,w6⟩
 ·rw[ht0];exact a2
 rcases Int.lt_or_le (t-1) 0 with q | q
 ·exfalso;have u0:=Q4 (b:=b) O (hU.drop j);have:t*dv b v<=0:=Int.mul_nonpos_of_nonpos_of_nonneg O hv0;omega
 exact q
end Ig
namespace Go.Proofs.YtpmehagnedbkhaaGreatDoor
variable{α ι:Type}{N c i k n:Nat}{s:List UInt8}{x y:Operand}{a b l o out u:List Int}{w:World}{F:Gs}{q:Option Addr}{d z zx:Int}{g:Bool}{ob:List (Nat×Obj)}{cs rest:List Value}{Q:Exit->Act->World->Prop}{m:Sl}{ra rb:Sr}{yT:TypeId}
open Go.RowKit Ig
def el{α:Type}[Inhabited α](l:List α)(i:Nat):α:=l.getD i default
def J4[Inhabited α]{l:List α}{i:Nat}(h:i<l.length):el l i=l[i]:=by simp[el,h]
def JK[Inhabited α]{l:List α}{i:Nat}(h:i<l.length):el l i∈l:=by rw[J4 h];exact List.getElem_mem h
theorem Jg[Inhabited α]{f:α->List Value}{k:Nat}(hf:∀x,(f x).length=k){l:List α}{i j:Nat}{u:Value}(h:i<l.length)(hj:(f (el l i))[j]?=some u):(l.flatMap f)[i*k+j]?=some u:=by
 have hlt:j<k:=by
  rcases Nat.lt_or_ge j k with g | g
  ·exact g
  rw[List.getElem?_eq_none (by rw[hf];exact g)]at hj;cases hj
 rw[Ti hf l i j h hlt,<-J4 h];exact hj
def ZD[Inhabited α]{f:α->Value}{l:List α}{i:Nat}(h:i<l.length):(l.map f)[i*1]?=some (f (el l i)):=by
 rw[Nat.mul_one,List.getElem?_map,List.getElem?_eq_getElem h,J4 h];rfl
def Xg[Inhabited α]{l:List α}{i:Nat}(h:i<l.length):l.take (i+1)=l.take i++[el l i]:=by
 rw[List.take_succ_eq_append_getElem h,J4 h]
def Dk[Inhabited α]{l:List α}{i:Nat}(h:i<l.length):l.drop i=el l i::l.drop (i+1):=by
 rw[List.drop_eq_getElem_cons h,J4 h]
def Zk(h:i<l.length):Qd l i=el l i:=by rw[ZH h,J4 h]
def pW(q:Option Addr):Nat:=(q.getD ⟨0,0,none⟩).block
def pV(q:Option Addr):Nat:=(q.getD ⟨0,0,none⟩).off
section
variable[Dr][df:Df]{P:Program}{Q:Exit->Act->World->Prop}{N:Nat}{m:Sl}{E E0:Env}{ops:Array Oper}{l:List Oper}{w0:World}{F0:Gs}{bs:List (Nat×Obj)}{G:Gs->Prop}{ty:TypeId}
theorem Q2{T e:TypeId}{sz sz':Nat}(i:Nat)(hr:∀F,G F->Qy F q n sz' cs)(hx:ev m x=some (.slice q n c))(hy:ev m y=some (.int .i64 (i:Int)))(hT:BU P T=some e)(hs:Zm P e=some (g,sz))(hi:i<n):
  Qt P N m (St ⟨w0,F0,bs,G⟩) (.indexAddr T x y) ty (.pointer (some ⟨pW q,pV q+i*sz,none⟩)):=λa w _ _ _ _ ha hw=>by
 obtain⟨F,hF⟩:=id hw;obtain⟨b,off,rfl⟩:=(hr F hF.hG).ptr O;exact Qx hx hy hT hs hi a w _ _ _ _ ha hw
theorem Qz{T:TypeId}{sz:Nat}(j:Nat){u:Value}(hr:∀F,G F->Qy F q n sz cs)(hn:0<n)(hx:ev m x=some (.pointer (some ⟨pW q,pV q+j,none⟩)))(ht:Zm P T=some (false,k))(hu:cs[j]?=some u):
  Qt P N m (St ⟨w0,F0,bs,G⟩) (.load T x) ty u:=λa w _ _ _ _ ha hw=>by
 obtain⟨F,hF⟩:=id hw;obtain⟨b,off,rfl⟩:=(hr F hF.hG).ptr hn;exact XY hx ht hr hn hu a w _ _ _ _ ha hw
theorem XZ{T:TypeId}{sz:Nat}{vs:List Value}(j:Nat)(hr:∀F,G F->Qy F q n sz cs)(hn:0<n)(hx:ev m x=some (.pointer (some ⟨pW q,pV q+j,none⟩)))(ht:Zm P T=some (true,k))(hl:vs.length=k)(hu:∀i v,vs[i]?=some v->cs[j+i]?=some v):
  Qt P N m (St ⟨w0,F0,bs,G⟩) (.load T x) ty (.agg vs.toArray):=λa w _ _ _ _ ha hw=>by
 obtain⟨F,hF⟩:=id hw;obtain⟨b,off,rfl⟩:=(hr F hF.hG).ptr hn;exact EJ hx ht hr hn hl hu a w _ _ _ _ ha hw
theorem Kb.append{m:Sl}:∀ {k l:Sl},Kb m k->Kb m l->Kb m (k++l)
 |[],_,_,h=>h
 |(_,_)::_,_,⟨h1,h2⟩,h=>⟨h1,Kb.append h2 h⟩
theorem Jo{c:Code}(K:Sl)(M:ι->Sl)(B:ι->List (Nat×Obj))(R:ι->Gs->Prop)(μ:ι->Nat)(i0:ι)
  (hk:Kb m K) (hm:Kb m (M i0)) (hb:(B i0).Sublist bs) (hg:∀F,G F->R i0 F)
  (round:∀i,J P c (Exit.then (OF N w0 F0 (λi=>K++M i) B (λi F=>G F/\R i F) μ i) Q) N (K++M i) ⟨w0,F0,B i,λF=>G F/\R i F⟩):J P (.loop c) Q N m ⟨w0,F0,bs,G⟩ :=
 Xf (λi=>K++M i) B (λi F=>G F/\R i F) μ i0 (hk.append hm) hb (λF h=>⟨h,hg F h⟩) round
theorem J2{c:Code}(K:Sl)(M:ι->Sl)(μ:ι->Nat)(i0:ι)(hk:Kb m K)(hm:Kb m (M i0))
  (round:∀i,J P c (Exit.then (OF N w0 F0 (λi=>K++M i) (λ_=>bs) (λ_=>G) μ i) Q) N (K++M i) ⟨w0,F0,bs,G⟩):J P (.loop c) Q N m ⟨w0,F0,bs,G⟩ :=
 Xf (λi=>K++M i) (λ_=>bs) (λ_=>G) μ i0 (hk.append hm) QGJ w9 round
theorem X8{x y:Code}(K M:Sl)(hk:Kb m K)(h1:J P x (XO λa w=>JY N (K++M) a/\St ⟨w0,F0,bs,G⟩ w) N m ⟨w0,F0,bs,G⟩)(h2:J P y Q N (K++M) ⟨w0,F0,bs,G⟩):J P (.seq x y) Q N m ⟨w0,F0,bs,G⟩ :=
 dp _ _ _ h1 h2
theorem Fb{x y:Code}(K:Sl)(M:ι->Sl)(B:ι->List (Nat×Obj))(R:ι->Gs->Prop)(hk:Kb m K)(h1:J P x (XO λa w=>∃i,JY N (K++M i) a/\St ⟨w0,F0,B i,λF=>G F/\R i F⟩ w) N m ⟨w0,F0,bs,G⟩)
  (h2:∀i,J P y Q N (K++M i) ⟨w0,F0,B i,λF=>G F/\R i F⟩):J P (.seq x y) Q N m ⟨w0,F0,bs,G⟩ :=
 GO (λi=>K++M i) B (λi F=>G F/\R i F) h1 h2
end
def Ff:(1:Int)<B9:=wu
def TT(db:DG B9 b)(zb:NZ b)(hn:b.length=n+1):1<=Qd b n/\1<=B9/(Qd b n+1)/\B9/(Qd b n+1)<B9/\B9/(Qd b n+1)*(Qd b n+1)<=B9:=by
 have hd:=db.Qd JJ n;have h1:1<=Qd b n:=by
  have hlt:n<b.length:=O;have:Qd b n≠0:=by
   intro e;refine zb ?_;rw[List.getLast?_eq_getElem?,hn,Nat.add_sub_cancel,List.getElem?_eq_getElem hlt];rw[ZH hlt]at e;rw[e]
  omega
 have h9:B9=1000000000:=rfl;refine⟨h1,?_,?_,Int.ediv_mul_le _ O⟩
 ·exact(Int.le_ediv_iff_mul_le O).2 O
 exact Int.ediv_lt_of_lt_mul O (by rw[Int.mul_add];have:B9*1<=B9*Qd b n:=Int.mul_le_mul_of_nonneg_left h1 O;omega)
theorem jl{v:List Int}{f:Int}(db:DG B9 b)(zb:NZ b)(hn:b.length=n+1)(dv':DG B9 v)(zv:NZ v)(h:dv B9 v=dv B9 b*f)(h1:1<=f)(h2:f*(Qd b n+1)<=B9):v.length=n+1:=by
 have hlt:n<b.length:=O;have e1:dv B9 b=dv B9 (b.take n)+B9^n*Qd b n:=by
  have:=Vt B9 b n;rw[List.take_of_length_le O]at this;exact this
 have e2:=YB JJ (db.take n);rw[show(b.take n).length=n by simp;omega]at e2;have hb0:B9^n<=dv B9 b:=by
  have:=Dj JJ db zb (by intro e;rw[e]at hn;simp at hn);rw[hn,Nat.add_sub_cancel]at this;exact this
 have hp:=pow_pos JJ n;have hup:dv B9 b<B9^n*(Qd b n+1):=by rw[Int.mul_add,Int.mul_one];omega
 have hv1:dv B9 v<B9^(n+1):=by
  rw[h,Int.pow_succ];have:dv B9 b*f<B9^n*(Qd b n+1)*f:=Int.mul_lt_mul_of_pos_right hup O;have q:B9^n*(Qd b n+1)*f<=B9^n*B9:=by
   rw[Int.mul_assoc,Int.mul_comm (Qd b n+1)];exact Int.mul_le_mul_of_nonneg_left h2 O
  omega
 have hv0:B9^n<=dv B9 v:=by
  rw[h];have:dv B9 b*1<=dv B9 b*f:=Int.mul_le_mul_of_nonneg_left h1 O;omega
 rcases Nat.lt_trichotomy v.length (n+1)with g | g | g
 ·have h3:=YB JJ dv';have h4:=Ig.YT (b:=B9) wu (show v.length<=n by omega);omega
 ·exact g
 have h3:=Dj JJ dv' zv (by intro e;rw[e]at g;simp at g);have h4:=Ig.YT (b:=B9) wu (show n+1<=v.length-1 by omega);omega
def uJ{b:Int}(hb:0<b){U:List Int}{k:Nat}(hU:DG b U):b^k*dv b (U.drop k)<=dv b U:=by
 rw[ZG b U k];have:=Q4 hb (hU.take k);omega
structure D1(a v:List Int)(f:Int)(n:Nat) where
 k:Nat
 U:List Int
 Q:List Int
 le:k+n<=a.length+1
 lu:U.length=a.length+1
 lq:Q.length=a.length+1-n
 du:DG B9 U
 dq:DG B9 Q
 lt:dv B9 (U.drop k)<dv B9 v
 h:dv B9 a*f=dv B9 v*(B9^k*dv B9 (Q.drop k))+dv B9 U
def D1.start{a b v U:List Int}{f:Int}{n:Nat}(da:DG B9 a)(db:DG B9 b)(zb:NZ b)(hn:b.length=n+1)(hv:dv B9 v=dv B9 b*f)(h1:1<=f)(du:DG B9 U)(lu:U.length=a.length+1)(hU:dv B9 U=dv B9 a*f)(hl:n+1<=a.length+1):D1 a v f (n+1) where
 k:=a.length+1-(n+1)
 U:=U
 Q:=List.replicate (a.length+1-(n+1)) 0
 le:=O
 lu:=lu
 lq:=wz
 du:=du
 dq:=DG.replicate JJ _
 lt:=by
  have hb0:B9^n<=dv B9 b:=by
   have:=Dj JJ db zb (by intro e;rw[e]at hn;simp at hn);rw[hn,Nat.add_sub_cancel]at this;exact this
  have h2:=uJ JJ (k:=a.length-n) du;have h3:=YB JJ da;have h4:dv B9 a*f<B9^a.length*f:=Int.mul_lt_mul_of_pos_right h3 O;have h5:B9^a.length*f=B9^(a.length-n)*(B9^n*f):=by rw[<-Int.mul_assoc,<-Int.pow_add];congr 2;omega
  rw[hU]at h2;have h6:B9^(a.length-n)*dv B9 (U.drop (a.length-n))<B9^(a.length-n)*(B9^n*f):=O;have h7:dv B9 (U.drop (a.length-n))<B9^n*f:=Int.lt_of_mul_lt_mul_left h6 (wk<|pow_pos JJ (a.length-n));have h8:B9^n*f<=dv B9 b*f:=Int.mul_le_mul_of_nonneg_right hb0 O;rw[show a.length+1-(n+1)=a.length-n by omega,hv];omega
 h:=by
  rw[List.drop_of_length_le wz,To,Int.mul_zero,Int.mul_zero,Int.zero_add,hU]
def D1.zero{v:List Int}{f:Int}(i:D1 a v f n)(dv':DG B9 v)(hv:v.length=n):dv B9 (i.U.drop (i.k+n))=0:=by
 have:=YB JJ dv';rw[hv]at this;exact O2 Ff i.du (Int.lt_trans i.lt this)
def D1.qg{v:List Int}{f:Int}{m:Nat}(i:D1 a v f (m+2))(dv':DG B9 v)(zv:0<Qd v (m+1))(hv:v.length=m+2)(hk:0<i.k):V1 B9 ((i.U.drop (i.k-1)).take (m+3)) v m/\dv B9 (i.U.drop (i.k-1))=dv B9 ((i.U.drop (i.k-1)).take (m+3)):=by
 have hz:=i.zero dv' hv;have hle:=i.le;have hlu:=i.lu;have e:dv B9 (i.U.drop (i.k-1))=dv B9 ((i.U.drop (i.k-1)).take (m+3)):=by
  have:=ZG B9 (i.U.drop (i.k-1)) (m+3);rw[List.drop_drop,show i.k-1+(m+3)=i.k+(m+2) by omega,hz]at this;simpa using this
 refine⟨⟨(i.du.drop _).take _,dv',w6,hv,zv,?_⟩,e⟩;rw[<-e,XH O,Yb,show i.k-1+1=i.k by omega];have hd:=i.du.Qd JJ (i.k-1);have hlt:=i.lt;have:B9*dv B9 (i.U.drop i.k)<=B9*(dv B9 v-1):=Int.mul_le_mul_of_nonneg_left O wu;rw[Int.mul_sub,Int.mul_one]at this;omega
def D1.next{a v:List Int}{f:Int}{n:Nat}(i:D1 a v f n)(hk:0<i.k)(hn:0<n){U1:List Int}{t:Int}(t0:0<=t)(t1:t<B9)(h1:DG B9 U1)(h2:dv B9 (U1.drop (i.k-1))<dv B9 v)(h3:dv B9 U1=dv B9 i.U-B9^(i.k-1)*(t*dv B9 v))(h4:U1.length=i.U.length):D1 a v f n where
 k:=i.k-1
 U:=U1
 Q:=i.Q.set (i.k-1) t
 le:=wk i.le
 lu:=by rw[h4,i.lu]
 lq:=by rw[List.length_set,i.lq]
 du:=h1
 dq:=i.dq.set _ t0 t1
 lt:=h2
 h:=by
  have hle:=i.le;have hlq:=i.lq;rw[h3,XH (l:=i.Q.set (i.k-1) t) (by rw[List.length_set];omega),Yb,K4 O,if_pos rfl,List.drop_set_of_lt O,show i.k-1+1=i.k by omega,i.h];have e:B9^i.k=B9^(i.k-1)*B9:=by rw[<-Int.pow_succ];congr 1;omega
  rw[e];generalize B9^(i.k-1)=p;generalize dv B9 (i.Q.drop i.k)=q;generalize dv B9 i.U=u;generalize dv B9 v=y;generalize B9=B
  grind
theorem D1.stop{v:List Int}{f:Int}(i:D1 a v f n)(hk:i.k=0)(db:DG B9 b)(da:DG B9 a)(hv:dv B9 v=dv B9 b*f)(h1:1<=f)(hb:0<dv B9 b)(dv':DG B9 v)(lv:v.length=n):
  dv B9 i.Q=dv B9 a/dv B9 b/\dv B9 (i.U.take n)=f*(dv B9 a%dv B9 b):=by
 have h:=i.h;have lt:=i.lt;rw[hk,List.drop_zero]at lt;have hz:=i.zero dv' lv;rw[hk,Nat.zero_add]at hz;have e0:dv B9 (i.U.take n)=dv B9 i.U:=by
  rw[ZG B9 i.U n,hz];simp
 rw[hk,List.drop_zero,Int.pow_zero,Int.one_mul,hv]at h;rw[hv]at lt;have u0:=Q4 JJ i.du;rw[e0];have e1:dv B9 i.U=f*(dv B9 a-dv B9 b*dv B9 i.Q):=by rw[Int.mul_sub];grind
 have lt2:f*(dv B9 a-dv B9 b*dv B9 i.Q)<f*dv B9 b:=by rw[<-e1,Int.mul_comm f (dv B9 b)];exact lt
 have r1:dv B9 a-dv B9 b*dv B9 i.Q<dv B9 b:=Int.lt_of_mul_lt_mul_left lt2 O;have r0:0<=dv B9 a-dv B9 b*dv B9 i.Q:=by
  rcases Int.lt_or_le (dv B9 a-dv B9 b*dv B9 i.Q) 0 with g | g
  ·have:f*(dv B9 a-dv B9 b*dv B9 i.Q)<=f*(-1):=Int.mul_le_mul_of_nonneg_left O O;omega
  exact g
 have q:dv B9 a/dv B9 b=dv B9 i.Q:=ZW hb (by rw[Int.mul_comm];omega) (by rw[Int.add_mul,Int.one_mul,Int.mul_comm];omega);refine⟨q.symm,?_⟩;rw[e1];have:=Int.emod_def (dv B9 a) (dv B9 b);rw[this,q]
section
variable[Dr][df:Df]{P:Program}{Q:Exit->Act->World->Prop}{N:Nat}{m:Sl}{ops:Array Oper}{l:List Oper}{w0:World}{F0:Gs}{bs:List (Nat×Obj)}{G:Gs->Prop}{ty:TypeId}{pos:String}{aft:Array Edge}
theorem V4{d:Nat}{t e:TypeId}{sz:Nat}(ht:P.underlying t=some (.slice e))(hs:Zm P e=some (g,sz))(k:∀b,JS P ops Q l N ((d,.slice (some ⟨b,0,none⟩) 0 0)::m) ⟨w0,F0,(b,.cells #[] e (0,0))::bs,G⟩)(hu:Ga e=true:=by rfl)(hd:J6 N (some d)=true:=by rfl):
  JS P ops Q (⟨some d,.buildSlice t 0 #[],ty,pos,aft,none⟩::l) N m ⟨w0,F0,bs,G⟩:=λa w ha hw=>wpList_plain rfl λK hK=>by
 refine upon_value (v:=.slice (some ⟨w.heap.size,0,none⟩) 0 0) (w':=w.alloc (.cells #[] e)) ?_ (hK _ _ (k _ _ _ (ha.put hd _) (hw.alloc _ (Xy hu))));have hrun:(Instr.buildSlice t 0 #[]).run P w = .ok (.slice (some ⟨w.heap.size,0,none⟩) 0 0) (w.alloc (.cells #[] e)):=by
  have hf:Instr.fill (λi=>some (i*sz,sz)) (Array.map (λx=>(#[]:Array Value)[x%(#[]:Array Value).size]!) (Array.range 0)) []=some #[]:=by simp[Instr.fill]
  simp only[Instr.buildSlice,Sem.run_bind,run_underlying ht,Result.andThen_ok,YM hs,Nat.zero_mul,if_neg (show ¬0>2^24 by omega),Sem.run_pure,if_true,hf,newRow,run_newObj];rfl
 simp[execOp,hrun]
theorem Uv{T e e':TypeId}{sz:Nat}{v:Value}{S:World->Prop}(hx:ev m x=some v)(hr:Q6 e' sz v n cs ob)(hT:BU P T=some e):Qt P N m S (.call ⟨.builtin .len,#[x],#[T]⟩) ty (.int .i64 n):=by
 cases hr with
 |nil=>exact Qf hx hT
 |some=>exact Qf hx hT
theorem Q6.big{T:TypeId}{sz:Nat}{v:Value}(hr:Q6 T sz v n cs ob)(hn:0<n):∃b cap rest,v = .slice (Option.some ⟨b,0,Option.none⟩) n cap/\ob=[(b,.cells (cs++rest).toArray T (0,0))]/\n<=cap:=by
 cases hr with
 |nil=>exact absurd hn (Nat.lt_irrefl 0)
 |some h1 h2 h3 h4=>exact⟨_,_,_,rfl,rfl,h3⟩
theorem Src.QEa{sz b off:Nat}{news:List Value}(hr:∀F,G F->Qy F (some ⟨b,off,none⟩) k sz news)(hk:0<k)(hl:news.length=k*sz):Src ⟨w0,F0,bs,G⟩ sz (.slice (.some ⟨b,off,none⟩) k c) k news :=
 ⟨hl,.inr ⟨_,_,rfl,λw hw j v hv=>by rw[Yj];exact KD hw hr hk hv⟩⟩
end
theorem JP.own{b:Nat}{T:TypeId}(h:F b=some ((l.map Q7++rest).toArray,T))(hl:l.length=n)(hn:n<=c):JP F ⟨some ⟨b,0,none⟩,n,c⟩ l:=by
 refine⟨⟨by simp[hl],λ_=>⟨b,0,_,T,rfl,h,λj u hu=>?_⟩⟩,hl,hn⟩;have hj:j<(l.map Q7).length:=by rcases Nat.lt_or_ge j (l.map Q7).length with g | g;exact g;rw[List.getElem?_eq_none g]at hu;cases hu
 rw[Nat.zero_add,List.getElem?_toArray,List.getElem?_append,if_pos hj];exact hu
theorem JP.QEe{b:Nat}{T:TypeId}(h:F b=some ((l.map Q7).toArray,T))(hl:l.length=n)(hn:n<=c):JP F ⟨some ⟨b,0,none⟩,n,c⟩ l:=JP.own (rest:=[]) (by rw[List.append_nil];exact h) hl hn
def JP.one{b:Nat}{x:Int}{T:TypeId}(h:F b=some (([Value.int .i64 x]:List Value).toArray,T)):JP F ⟨some ⟨b,0,none⟩,1,1⟩ [x]:=⟨Qy.of h rfl,rfl,Nat.le_refl _⟩
def JP.take(h:JP F ⟨q,n,c⟩ l)(hk:k<=n):JP F ⟨q,k,c⟩ (l.take k):=by
 have hn:=h.2.1;have hc:=h.2.2;dsimp only at hn hc;exact⟨h.1.take hn hk,w6,by show k<=c;omega⟩
theorem Vs{m:List Int}(hl:DG B9 l)(hm:DG B9 m)(zl:NZ l)(h:dv B9 l<=dv B9 m):l.length<=m.length:=by
 rcases Nat.lt_or_ge m.length l.length with g | g
 ·have:=Xi Ff hm hl zl g;omega
 exact g
def Il(x:Int):dv B9 [x]=x:=by simp[dv]
theorem jA{f x r t:Int}(hf:0<f)(h:f*x=f*r+t)(h0:0<=t)(h1:t<f):r=x:=by
 have e:t=f*(x-r):=by rw[Int.mul_sub];omega
 rcases Int.lt_trichotomy (x-r) 0 with g | g | g
 ·have:f*(x-r)<=f*(-1):=Int.mul_le_mul_of_nonneg_left O O;omega
 ·omega
 have:f*1<=f*(x-r):=Int.mul_le_mul_of_nonneg_left O O;omega
def dx(a b:List Int)(c:(Sr×List Int)×(Sr×List Int))(F:Gs):Prop :=
 (JP F c.1.1 c.1.2/\DG B9 c.1.2/\NZ c.1.2/\dv B9 c.1.2=dv B9 a/dv B9 b)/\(JP F c.2.1 c.2.2/\DG B9 c.2.2/\NZ c.2.2/\dv B9 c.2.2=dv B9 a%dv B9 b)
theorem y7(nb:b.length=1)(db:DG B9 b)(c:(Sr×List Int)×Int){k:Nat}
  (h:JP F c.1.1 c.1.2/\DG B9 c.1.2/\NZ c.1.2/\0<=c.2/\c.2<Qd b 0/\dv B9 a=Qd b 0*dv B9 c.1.2+c.2/\c.1.2.length<=a.length) (h':JP F ⟨some ⟨k,0,none⟩,(JA [c.2]).length,1⟩ (JA [c.2])) :
  dx a b ((c.1.1,c.1.2),(⟨some ⟨k,0,none⟩,(JA [c.2]).length,1⟩,JA [c.2])) F:=by
 obtain⟨h1,h2,h3,h4,h5,h6,_⟩:=h;have e:dv B9 b=Qd b 0:=by
  obtain⟨x,rfl⟩:=List.length_eq_one_iff.1 nb;simp[dv,Qd]
 have b0:=db.Qd JJ 0;refine⟨⟨h1,h2,h3,?_⟩,h',(DG.cons h4 O (DG.nil _)).JA,Xm _,?_⟩
 ·show dv B9 c.1.2=_;rw[e];exact(ZW O (by rw[Int.mul_comm];omega) (by rw[Int.add_mul,Int.one_mul,Int.mul_comm];omega)).symm
 show dv B9 (JA [c.2])=_;rw[XG,Il,e,Zt (q:=dv B9 c.1.2) (by rw[Int.mul_comm];omega) (by rw[Int.add_mul,Int.one_mul,Int.mul_comm];omega),Int.mul_comm];omega
structure QFI(a:List Int)(f:Int) where
 U:List Int
 v:Value
 ob:List (Nat×Obj)
 le:U.length<=a.length+1
 du:DG B9 U
 h:dv B9 U=dv B9 a*f
 hr:Q6 3 1 v U.length (U.map Q7) ob
structure QFG(U v:List Int)(j:Nat)(t:Int) where
 i:Nat
 U':List Int
 br:Int
 le:i<=v.length
 h:Rl B9 U v j t i U' br
structure QFU(U v:List Int)(j n:Nat) where
 i:Nat
 U':List Int
 c:Int
 le:i<=n
 h:Ig.D5 B9 U v j n i U' c
@[reducible] def QEL (c:(Sr×List Int)×(Sr×List Int)):Value:=.tuple #[.slice c.1.1.q c.1.1.n c.1.1.cap,.slice c.2.1.q c.2.1.n c.2.1.cap]
set_option maxHeartbeats 4000000 in
theorem GB(hF:Fits F w)(hA:JP F ra a)(hB:JP F rb b)(da:DG B9 a)(db:DG B9 b)(za:NZ a)(zb:NZ b)(hb:0<dv B9 b)(la:a.length<=10000000)(lb:b.length<=10000000):
  QU prog 163 [ra.v,rb.v] w F QEL (λc F=>dx a b c F):=by
 obtain⟨q,n,c⟩:=ra;obtain⟨q',n',c'⟩:=rb;have na:=hA.2.1;have nb:=hB.2.1;dsimp only at na nb;have h9:B9=1000000000:=rfl;have nb0:0<n':=by
  rcases Nat.eq_zero_or_pos n' with g | g
  ·rw[g]at nb;rw[List.eq_nil_of_length_eq_zero nb]at hb;simp at hb
  exact g
 dsimp only[Sr.v];refine QU.intro (G:=λF=>JP F ⟨q,n,c⟩ a/\JP F ⟨q',n',c'⟩ b) func163 rfl wy rfl rfl hF (λF' hF'=>⟨hA.le hF',hB.le hF'⟩)<|QGi<|QF6 rfl<|wQ rfl<|QG<|wR rfl<|QF5 rfl<|QJ rfl (λ_ _ f k=>Wm f (ra:=⟨q,n,c⟩) (rb:=⟨q',n',c'⟩) k.1 (k.2) (da) (db) (za) (zb) O O) λ_=>QA (QN rfl rfl rfl)<|QE<|QD ?_
 refine QP I (λhc=>?_) λhc=>?_
 ·have hlt:dv B9 a<dv B9 b:=by have:=QGx hc;unfold Za at this;split at this;assumption;split at this<;>omega
  refine wA 8 I ?_;exact J9 (((⟨none,0,0⟩,[]),(⟨q,n,c⟩,a)):(Sr×List Int)×(Sr×List Int)) I (wO I I) (rfl) λF h9=>⟨⟨⟨Qy.nil F _ _,rfl,Nat.le_refl _⟩,DG.nil _,by simp[NZ],by rw[To];exact(Int.ediv_eq_zero_of_lt (Q4 JJ da) hlt).symm⟩,h9.1.1,da,za,(Int.emod_eq_of_lt (Q4 JJ da) hlt).symm⟩
 have hge:dv B9 b<=dv B9 a:=by have:=QGy hc;unfold Za at this;split at this;exact absurd this wu;omega
 refine QHC 6 I<|QA (Qf I Qk)<|QHB 3 I ?_
 refine QP I (λhc=>?_) λhc=>?_
 ·have hn1:n'=1:=wk<|QGx hc
  subst hn1;obtain⟨f1,_⟩:=TT (n:=0) db zb nb;have bx:=db.Qd JJ 0;have d0:=bx.2;refine wA 4 I<|QA (Q2 (n:=1) (0) (λF h9=>(h9.1.2).1) rfl wM Qk Qu O)<|QA (Qz (n:=1) ((0)*1) (λF h9=>(h9.1.2).1) O I Qu (JH (o:=b) O))<|QJ I (λ_ _ f k=>Ex f (ra:=⟨q,n,c⟩) k.1.1 (da) O O (d0)) λc37=>QHB 8 I<|Xe _ (λ_ _ f k=>k.2.2) λp37=>wA 3 I<|Qs I (JU Qk) Qu BR I I λb42=>QJ I (λ_ _ f k=>W8 f (r:=⟨some ⟨b42,0,none⟩,1,1⟩) (JP.one k.2) wz) λc43=>QHB 4 I ?_
  refine QT ?_;exact J9 (((c37.1.1,c37.1.2),(⟨some ⟨b42,0,none⟩,(JA [c37.2]).length,1⟩,JA [c37.2])):(Sr×List Int)×(Sr×List Int)) I (wO I I) (rfl) λF h9=>y7 nb db c37 h9.1.1.2 h9.2
 have hn2:n'≠1:=λe=>QGy hc O;obtain⟨m,rfl⟩:∃m,n'=m+2:=⟨n'-2,O⟩;obtain⟨f1,f2,f3,f4⟩:=TT (n:=m+1) db zb nb;have bx:=db.Qd JJ (m+1);rw[h9]at bx f2 f3 f4;have d1f:DG B9 [1000000000/(Qd b (m+1)+1)]:=DG.cons O f3 (DG.nil _);refine QHC 6 I<|QA (Qf I Qk)<|QA (J1 I I O)<|QA (Q2 (n:=(m+2)) (m+1) (λF h9=>(h9.1.2).1) rfl wM Qk Qu O)<|QA (Qz (n:=(m+2)) ((m+1)*1) (λF h9=>(h9.1.2).1) O I Qu (JH (o:=b) O))<|QA (Qm I I O)<|QA (Wc I I O O O)<|Qs I (JU Qk) Qu BR I I λb52=>QHB 7 I ?_
 refine QJ I (λ_ _ f k=>W9 f (ra:=⟨q',m+2,c'⟩) (rb:=⟨some ⟨b52,0,none⟩,1,1⟩) k.1.1.2 (JP.one k.2) (db) (d1f) O (by first | omega | (simp;done) | (simp;omega))) (λc55=>?_);rcases c55 with ⟨v55,l55⟩;dsimp only;refine JN _ (λw F hF ⟨⟨⟨⟨hA,hB⟩,_⟩,hs52⟩,⟨h55,h55p⟩⟩=>And.intro h55.2 h55p) (λp55=>wQ rfl<|QG ?_);obtain⟨⟨n55,c55⟩,d55,e55,z55,m55⟩:=p55;rw[Il]at e55;have l55l:l55.length=m+2:=jl db zb nb d55 z55 e55 f2 f4;obtain⟨qv,nv,cv⟩:=v55;dsimp only at n55 c55 ⊢;obtain rfl:nv=m+2:=O;have zv:0<Qd l55 (m+1):=wk ((TT (n:=m+1) d55 z55 l55l).1);have hlab:b.length<=a.length:=Vs db da zb hge;refine wA 2 I<|QA (Qf I Qk)<|QHB 5 I<|V4 (JU Qk) Qu λb58=>wB 2 I ?_
 refine QJ I (λ_ _ f k=>W9 f (ra:=⟨q,n,c⟩) (rb:=⟨some ⟨b52,0,none⟩,1,1⟩) k.1.1.1.1 (JP.one k.1.2) (da) (d1f) O (by first | omega | (simp;done) | (simp;omega))) (λc61=>?_);rcases c61 with ⟨v61,l61⟩;dsimp only;refine JN _ (λw F hF ⟨⟨⟨⟨⟨hA,hB⟩,_⟩,hs52⟩,⟨h55,h55p⟩⟩,⟨h61,h61p⟩⟩=>And.intro h61.2 h61p) (λp61=>?_);obtain⟨⟨n61,c61⟩,d61,e61,z61,m61⟩:=p61;rw[Il]at e61;have hpos:0<l61.length:=by
  rcases Nat.eq_zero_or_pos l61.length with g | g
  ·rw[List.eq_nil_of_length_eq_zero g,To]at e61;have:0<dv B9 a*(1000000000/(Qd b (m+1)+1)):=Int.mul_pos O O;omega
  exact g
 obtain⟨qa,na',ca⟩:=v61;dsimp only at n61 c61 ⊢;refine JN _ (λ_ _ f h=>h.2.1.1.ptr (by dsimp only;omega)) (λhq=>?_);obtain⟨qab,qao,hq⟩:=hq;dsimp only at hq;subst hq;simp only[List.length_singleton]at m61;refine YC (bs1:=[]) (ob:=[(b58,.cells #[] 3 (0,0))]) (n:=0) (k:=na') (sz:=1) (olds:=[]) (news:=l61.map Q7) rfl rfl Qk Qu BR rfl D7 (Q6.some (l:=[]) (rest:=[]) rfl rfl (Nat.le_refl _) (Nat.zero_le _)) (Src.QEa (λF h=>h.2.1.1) O w6) O O (λv hv=>by obtain⟨x,_,rfl⟩:=List.mem_map.1 hv;rfl) (λv62 ob62 hr62=>QHB 5 I<|Jo (ι:=QFI a (1000000000/(Qd b (m+1)+1))) [(0,_),(8,_),(9,_),(10,_)] (λi=>[(11,i.v)]) (λi=>i.ob) (λi F=>True) (λi=>a.length+1-i.U.length) (⟨l61,v62,ob62,O,d61,e61,by rw[n61];simpa using hr62⟩) wV wS QGJ w8 λi=>?_);simp only[List.cons_append,List.nil_append];have hle:=i.le;refine wA 4 I<|QA (Uv I i.hr Qk)<|QF5 I<|QA (Qf I Qk)<|QA (Qm I I O)<|QHB 3 I ?_
 refine QP I (λhc=>?_) λhc=>?_
 ·refine QHC 5 I<|Qs I (JU Qk) Qu BR I I λb70=>?_
  refine YC (bs1:=[]) (ob:=i.ob) (k:=1) (sz:=1) (news:=[.int .i64 0]) I I Qk Qu BR I D7 i.hr (Src.row (off:=0) tB (λj v hv=>by rw[Nat.zero_add];show([.int .i64 0].toArray)[j]?=some v;rw[List.getElem?_toArray];exact hv) rfl) O O (Z7 wS) (λv71 ob71 hr71=>?_);refine wB 2 I<|Qi ?_
  exact Qj (⟨i.U++[0],v71,ob71,by have:=QGx hc;simp;omega,i.du.append (DG.cons wu wu (DG.nil _)),by rw[XX,i.h];simp,by simpa[Q7]using hr71⟩) (by have:=QGx hc;show a.length+1-(i.U++[0]).length<a.length+1-i.U.length;rw[List.length_append,List.length_singleton];omega) wW QGJ λF h=>⟨h.1.1,trivial⟩
 refine Qv ?_
 repeat first|refine QV ?_|refine QQ wy ?_
 refine QW<|QD<|QG ?_
 have hle0:=i.le;have hU:i.U.length=a.length+1:=wk<|QGy hc
 obtain⟨U0,vU,obU,hle0,du0,hU0,hr0⟩:=i;dsimp only at hU hle0 hU0 ⊢;rw[hU]at hr0;obtain⟨bu,cu,rest,rfl,rfl,hcu⟩:=hr0.big O;refine wA 2 I<|QA (Qf I Qk)<|QF5 I<|QA (J1 I I O)<|Dz (n:=a.length+1-(m+2)) (bytes:=8) wM wM Qk Qu BR I D7 O O λbq=>?_
 rw[show XP [Value.int .i64 0] (a.length+1-(m+2))=(List.replicate (a.length+1-(m+2)) (0:Int)).map Q7 by rw[W3];simp[Q7]];refine X1 (List.Perm.swap _ _ _)<|QHB 7 I<|QA (Qf I Qk)<|QF5 I<|QA (J1 I I O)<|QA (J1 I I O)<|wQ I<|QS<|Jo (ι:=D1 a l55 (1000000000/(Qd b (m+1)+1)) (m+2)) [(8,_),(9,_),(10,_),(11,_),(12,_)] (λi2=>[(13,.int .i64 ((i2.k:Int)-1))]) (λi2=>[(bu,.cells (i2.U.map Q7++rest).toArray 3 (0,0)),(bq,.cells (i2.Q.map Q7).toArray 3 (0,0))]) (λi2 F=>True) (λi2=>i2.k) (D1.start da db zb nb e55 f2 du0 hU hU0 O) wW ⟨(congrArg (λz:Int=>some (Value.int .i64 z)) (by simp only[D1.start];omega)),trivial⟩ QGJ w8 λi2=>?_
 simp only[List.cons_append,List.nil_append];have hle2:=i2.le;have lu2:=i2.lu;have lq2:=i2.lq;refine wA 7 I ?_;refine QP I (λhc=>?_) λhc=>?_
 ·have hk0:0<i2.k:=wk<|QGx hc
  rw[show((i2.k:Int)-1)=((i2.k-1:Nat):Int) by omega];obtain⟨hst,hwe⟩:=i2.qg d55 zv l55l hk0;have hz0:=i2.zero d55 l55l;refine QHC 9 I<|XA (bs1:=_) rfl (List.Perm.refl _) (q8 (rest:=rest) (U:=i2.U) (v:=l55) (j:=(i2.k-1)) (m:=m) (rv:=⟨qv,m+2,cv⟩) lu2 O O (λF h9=>h9.1.1.1.2.1) hst) λt89=>JN _ (λ_ _ f h=>h.2) λg89=>?_
  obtain⟨t0,t1,t2,t3⟩:=g89;rw[<-hwe]at t2 t3;refine QHB 15 I<|Jo (ι:=QFG i2.U l55 (i2.k-1) t89) [(8,_),(9,_),(10,_),(11,_),(12,_),(13,_),(14,_)] (λi3=>[(15,.int .i64 (i3.br)),(16,.int .i64 ((i3.i:Nat):Int))]) (λi3=>[(bu,.cells (i3.U'.map Q7++rest).toArray 3 (0,0)),(bq,.cells (i2.Q.map Q7).toArray 3 (0,0))]) (λi3 F=>True) (λi3=>l55.length-i3.i) (⟨0,i2.U,0,Nat.zero_le _,Rl.start wu i2.du _ _⟩) wY wT QGJ w8 λi3=>?_
  simp only[List.cons_append,List.nil_append];have hle3:=i3.le;have lU3:=i3.h.len;have br0:=i3.h.br0;have br1:=i3.h.br1;rw[h9]at br1;refine wA 8 I ?_;refine QP I (λhc=>?_) λhc=>?_
  ·have hi3:i3.i<m+2:=wk<|QGx hc
   have bd:=yR Ff ⟨t0,t1⟩ (d55.Qd JJ i3.i) ⟨i3.h.br0,i3.h.br1⟩;simp only[h9]at bd;have bu3:=i3.h.dg.Qd JJ ((i2.k-1)+i3.i);rw[h9]at bu3;have hd3:Qd i3.U' ((i2.k-1)+i3.i)=Qd i2.U ((i2.k-1)+i3.i):=Zf i3.h.hi (Nat.le_refl _);refine QHC 9 I<|QA (Q2 (n:=(m+2)) (i3.i) (λF h9=>(h9.1.1.1.1.1.2.1).1) rfl rfl Qk Qu O)<|QA (Qz (n:=(m+2)) ((i3.i)*1) (λF h9=>(h9.1.1.1.1.1.2.1).1) O I Qu (JH (o:=l55) O))<|QA (Vm I I O)<|QF5 I<|QA (Qm I I O)<|QHB 8 I<|QA (Qm I I O)<|QA (Qx (i:=(i2.k-1)+i3.i) rfl wM Qk Qu O)<|QA (YY (c:=(i3.U').map Q7++rest) (T':=3) rfl Qu .here (Zu (by first | omega | (simp only[List.length_set];omega)))) ?_
   refine QF5 I<|QA (KW I I O O)<|QA (J1 I I O)<|QHB 6 I<|QA (Wc I I O O O)<|QHB 10 I ?_
   refine QP I (λhc=>?_) λhc=>?_
   ·have hx:=QGx hc;refine wR I<|QA (Qm I I O)<|QHB 5 I<|QA (Qm I I O)<|QHB 7 I<|QA (Qm I I O)<|QF5 I<|QA (Qx (i:=(i2.k-1)+i3.i) rfl wM Qk Qu O)<|QZ (vs:=[_]) I I I Qu I .here (Vn (by first | omega | (simp only[List.length_set];omega)) (((Qd (i3.U') ((i2.k-1)+i3.i)-(((t89*Qd l55 (i3.i))+i3.br)%1000000000))+1000000000))) wS<|QE<|Qi<|QD<|QB ?_
    refine QF5 I<|QA (Qm I I O)<|wB 2 I ?_
    exact Qj (⟨i3.i+1,((i3.U').set ((i2.k-1)+i3.i) (((Qd (i3.U') ((i2.k-1)+i3.i)-(((t89*Qd l55 (i3.i))+i3.br)%1000000000))+1000000000))),((((t89*Qd l55 (i3.i))+i3.br)/1000000000)+1),O,i3.h.step O (by rw[h9];omega) (by rw[h9];omega) (by rw[h9,<-hd3];omega)⟩) (by show l55.length-(i3.i+1)<l55.length-i3.i;omega) we QGJ λF h=>⟨h.1,trivial⟩
   have hx:=QGy hc;refine QHC 6 I<|QA (Qm I I O)<|QF5 I<|QA (Qx (i:=(i2.k-1)+i3.i) rfl wM Qk Qu O)<|QZ (vs:=[_]) I I I Qu I .here (Vn (by first | omega | (simp only[List.length_set];omega)) ((Qd (i3.U') ((i2.k-1)+i3.i)-(((t89*Qd l55 (i3.i))+i3.br)%1000000000)))) wS<|QE<|Qi<|QHD 3 I<|QA (Qm I I O)<|wB 2 I ?_
   exact Qj (⟨i3.i+1,((i3.U').set ((i2.k-1)+i3.i) ((Qd (i3.U') ((i2.k-1)+i3.i)-(((t89*Qd l55 (i3.i))+i3.br)%1000000000)))),(((t89*Qd l55 (i3.i))+i3.br)/1000000000),O,i3.h.step O (by rw[h9];omega) (by rw[h9];omega) (by rw[h9,<-hd3];omega)⟩) (by show l55.length-(i3.i+1)<l55.length-i3.i;omega) we QGJ λF h=>⟨h.1,trivial⟩
  have hi3:i3.i=m+2:=wk<|QGy hc
  refine Qv ?_
  repeat first|refine QV ?_|refine QQ wy ?_
  refine QW<|QD<|QG ?_
  have hs3:Rl B9 i2.U l55 (i2.k-1) t89 (m+2) i3.U' i3.br:=by have:=i3.h;rw[hi3]at this;exact this
  have hd3:Qd i3.U' ((i2.k-1)+(m+2))=Qd i2.U ((i2.k-1)+(m+2)):=Zf hs3.hi (Nat.le_refl _);have hS:=hs3.stop Ff l55l O;rw[<-hd3]at hS;have bu4:=i2.du.Qd JJ ((i2.k-1)+(m+2));rw[h9,<-hd3]at bu4;have htp:=hS.tp;have hz1:dv B9 (i2.U.drop ((i2.k-1)+(m+2)+1))=0:=by rw[show(i2.k-1)+(m+2)+1=i2.k+(m+2) by omega];exact hz0
  refine wA 4 I<|QA (Qm I I O)<|wB 3 I<|QA (Qm I I O)<|QA (Qx (i:=(i2.k-1)+(m+2)) I wM Qk Qu O)<|QA (YY (c:=(i3.U').map Q7++rest) (T':=3) rfl Qu .here (Zu (by first | omega | (simp only[List.length_set];omega))))<|QF5 I<|QA (J1 I I O)<|QA (Qx (i:=(i2.k-1)+(m+2)) I wM Qk Qu O)<|QZ (vs:=[_]) I I I Qu I .here (Vn (by first | omega | (simp only[List.length_set];omega)) ((Qd (i3.U') ((i2.k-1)+(m+2))-i3.br))) wS<|QHB 8 I<|QA (Qm I I O)<|QA (Qx (i:=(i2.k-1)+(m+2)) I wM Qk Qu O) ?_
  refine QA (YY (c:=(((i3.U').set ((i2.k-1)+(m+2)) ((Qd (i3.U') ((i2.k-1)+(m+2))-i3.br)))).map Q7++rest) (T':=3) rfl Qu .here (Zu (by first | omega | (simp only[List.length_set];omega))))<|QHB 3 I ?_
  refine QP I (λhc=>?_) λhc=>?_
  ·have hneg:Qd i3.U' ((i2.k-1)+(m+2))-i3.br<0:=by have:=QGx hc;rw[htp]at this;exact this
   refine wR I<|QA (J1 I I O)<|QHB 15 I<|Jo (ι:=QFU (i3.U'.set ((i2.k-1)+(m+2)) (Qd i3.U' ((i2.k-1)+(m+2))-i3.br)) l55 (i2.k-1) (m+2)) [(8,_),(9,_),(10,_),(11,_),(12,_),(13,_),(14,_)] (λi4=>[(19,.int .i64 (i4.c)),(20,.int .i64 ((i4.i:Nat):Int))]) (λi4=>[(bu,.cells (i4.U'.map Q7++rest).toArray 3 (0,0)),(bq,.cells (i2.Q.map Q7).toArray 3 (0,0))]) (λi4 F=>True) (λi4=>m+2-i4.i) (⟨0,_,0,Nat.zero_le _,D5.start hS.dg⟩) wY wT QGJ w8 λi4=>?_
   simp only[List.cons_append,List.nil_append];have hle4:=i4.le;have lU4:=i4.h.len;rw[List.length_set]at lU4;have c40:=i4.h.c0;have c41:=i4.h.c1;refine wA 8 I ?_;refine QP I (λhc=>?_) λhc=>?_
   ·have hi4:i4.i<m+2:=wk<|QGx hc
    have bu5:=i4.h.Qd Ff hi4;have bv5:=d55.Qd JJ i4.i;rw[h9]at bu5 bv5;have hd4:=Zf i4.h.hi (Nat.le_refl _);refine QHC 5 I<|JL QGJ mixed wm<|QL (QC I)<|QL (QC I)<|QL (QC I)<|QL (Qm I I O)<|QL (Qx (i:=(i2.k-1)+i4.i) rfl wM Qk Qu O)<|QL (YY (c:=(i4.U').map Q7++rest) (T':=3) rfl Qu .here (Zu (by first | omega | (simp only[List.length_set];omega))))<|QL (QC I)<|QL (QC I)<|QL (Q2 (n:=(m+2)) (i4.i) (λF h9=>(h9.1.1.1.1.1.1.2.1).1) rfl rfl Qk Qu O)<|QL (Qz (n:=(m+2)) ((i4.i)*1) (λF h9=>(h9.1.1.1.1.1.1.2.1).1) O I Qu (JH (o:=l55) O))<|QL (Qm I I O)<|QL (QC I)<|QL (Qm I I O)<|QL (QF I)<|Q3<|QHD 4 I ?_
    refine wB 2 I<|QA (Qm I I O)<|QF5 I<|QA (KW I I O O)<|QA (Qx (i:=(i2.k-1)+i4.i) rfl wM Qk Qu O)<|QZ (vs:=[_]) I I I Qu I .here (Vn (by first | omega | (simp only[List.length_set];omega)) ((((Qd (i4.U') ((i2.k-1)+i4.i)+Qd l55 (i4.i))+i4.c)%1000000000))) wS<|QHB 4 I<|QA (Wc I I O O O)<|wB 2 I<|Qi<|QHD 3 I<|QA (Qm I I O)<|wB 2 I ?_
    exact Qj (⟨i4.i+1,((i4.U').set ((i2.k-1)+i4.i) ((((Qd (i4.U') ((i2.k-1)+i4.i)+Qd l55 (i4.i))+i4.c)%1000000000))),(((Qd (i4.U') ((i2.k-1)+i4.i)+Qd l55 (i4.i))+i4.c)/1000000000),O,i4.h.step hi4 (by rw[List.length_set];omega) (by rw[h9];omega) O (by rw[h9,<-hd4];omega)⟩) (by show m+2-(i4.i+1)<m+2-i4.i;omega) we QGJ λF h=>⟨h.1,trivial⟩
   have hi4:i4.i=m+2:=wk<|QGy hc
   refine Qv ?_
   repeat first|refine QV ?_|refine QQ wy ?_
   refine QW<|QD ?_
   have hA4:Ig.D5 B9 (i3.U'.set ((i2.k-1)+(m+2)) (Qd i3.U' ((i2.k-1)+(m+2))-i3.br)) l55 (i2.k-1) (m+2) (m+2) i4.U' i4.c:=by have:=i4.h;rw[hi4]at this;exact this
   have hd5:Qd i4.U' ((i2.k-1)+(m+2))=Qd i3.U' ((i2.k-1)+(m+2))-i3.br:=by rw[Zf hA4.hi (Nat.le_refl _)];exact htp
   have hS5:Tx B9 i2.U l55 (i2.k-1) (m+2) t89 (i3.U'.set ((i2.k-1)+(m+2)) (Qd i3.U' ((i2.k-1)+(m+2))-i3.br)) (Qd i4.U' ((i2.k-1)+(m+2))):=by rw[hd5];exact hS
   obtain⟨g1,g2,g3,g4,g5⟩:=hA4.uV Ff hS5 i2.du d55 l55l hz1 O (by rw[hd5];exact hneg) t2;have lU4:=i4.h.len;rw[List.length_set]at lU4;have b5:Qd i4.U' ((i2.k-1)+(m+2))=Qd i3.U' ((i2.k-1)+(m+2))-i3.br:=hd5;refine wA 4 I<|QA (Qm I I O)<|wB 3 I<|QA (Qm I I O)<|QA (Qx (i:=(i2.k-1)+(m+2)) I wM Qk Qu O)<|QA (YY (c:=(i4.U').map Q7++rest) (T':=3) rfl Qu .here (Zu (by first | omega | (simp only[List.length_set];omega))))<|QF5 I<|QA (Qm I I O)<|QA (Qx (i:=(i2.k-1)+(m+2)) I wM Qk Qu O)<|QZ (vs:=[_]) I I I Qu I .here (Vn (by first | omega | (simp only[List.length_set];omega)) ((Qd (i4.U') ((i2.k-1)+(m+2))+i4.c))) wS<|QHB 6 I<|QA (Qx (i:=(i2.k-1)) I wM Qk Qu O)<|QZ (vs:=[_]) I I I Qu I .u1 (Hl (by first | omega | (simp only[List.length_set];omega)) ((t89-1))) wS<|QE<|Qi ?_
   refine QHD 3 I<|QA (J1 I I O)<|wB 2 I ?_
   exact Qj (i2.next hk0 O (t:=t89-1) g4 O g1 g2 g3 g5) (by show i2.k-1<i2.k;omega) wX QGJ λF h=>⟨h.1.1.1.1,trivial⟩
  have hneg:0<=Qd i3.U' ((i2.k-1)+(m+2))-i3.br:=by have:=QGy hc;rw[htp]at this;omega
  obtain⟨g1,g2,g3⟩:=hS.uV Ff O hneg (by rw[h9];omega) t3;refine QHC 6 I<|QA (Qx (i:=(i2.k-1)) I wM Qk Qu O)<|QZ (vs:=[_]) I I I Qu I .u1 (Hl (by first | omega | (simp only[List.length_set];omega)) (t89)) wS<|QE<|Qi<|QHD 3 I<|QA (J1 I I O)<|wB 2 I ?_
  exact Qj (i2.next hk0 O (t:=t89) t0 t1 g1 g2 g3 hS.len) (by show i2.k-1<i2.k;omega) wX QGJ λF h=>⟨h.1.1.1,trivial⟩
 have hk0:i2.k=0:=wk<|QGy hc
 refine Qv ?_
 repeat first|refine QV ?_|refine QQ wy ?_
 refine QW<|QD<|QG ?_
 obtain⟨s1,s2⟩:=i2.stop hk0 db da e55 f2 hb d55 l55l;have lt40:=Xp (i2.U.take (m+2));rw[List.length_take]at lt40;refine BQ (b:=bu) .here<|BQ (b:=bq) .here<|JL QGJ mixed wm<|QL (QC I)<|QL (QC I)<|QL (Ra (m+2) rfl rfl rfl Qk Qu O)<|Qc I (λ_ _ f k=>W8 f (r:=⟨some ⟨bu,0,none⟩,m+2,cu⟩) ((JP.own k.1.2 i2.lu hcu).take O) (by rw[List.length_take];omega)) λc196=>QL (QC I)<|QL (Q2 (n:=1) (0) (λF h9=>(Qy.of (n:=1) (sz:=1) h9.1.1.1.1.1.1.2 I)) I wM Qk Qu O)<|QL (Qz (n:=1) ((0)*1) (λF h9=>(Qy.of (n:=1) (sz:=1) h9.1.1.1.1.1.1.2 I)) O I Qu I)<|Qc I (λ_ _ f k=>Ex f (a:=JA (i2.U.take (m+2))) (ra:=⟨some ⟨bu,0,none⟩,(JA (i2.U.take (m+2))).length,cu⟩) k.2 ((i2.du.take _).JA) O (f2) (f3)) λc200=>QL (QC I)<|QL (QX I I)<|QL (QX I I)<|QL (QF I)<|QL (QF I)<|Q3<|QD<|wR I<|QJ I (λ_ _ f k=>W8 f (r:=⟨some ⟨bq,0,none⟩,a.length+1-(m+2),a.length+1-(m+2)⟩) (JP.QEe k.1.1.2 i2.lq (Nat.le_refl _)) O) λc204=>wB 3 I ?_
 refine QF4<|QT ?_
 exact J9 (((⟨some ⟨bq,0,none⟩,(JA i2.Q).length,a.length+1-(m+2)⟩,JA i2.Q),(c200.1.1,c200.1.2)):(Sr×List Int)×(Sr×List Int)) I (wO I I) (rfl) λF h9=>⟨⟨h9.2,i2.dq.JA,Xm _,by show dv B9 (JA i2.Q)=_;rw[XG];exact s1⟩,h9.1.2.1,h9.1.2.2.1,h9.1.2.2.2.1,jA O (by rw[<-s2,<-XG];exact h9.1.2.2.2.2.2.2.1) h9.1.2.2.2.2.1 h9.1.2.2.2.2.2.1⟩
section
variable{P:Program}{N:Nat}{m:Sl}{S:World->Prop}{ty:TypeId}
def Ss(P:Program)(T:TypeId):Bool:=match P.underlying T with
 |some .bool=>true
 |_=>false
def vM{T:TypeId}(h:Ss P T=true):P.underlying T=some .bool:=by
 unfold Ss at h;split at h
 ·assumption
 cases h
theorem N2{T:TypeId}(hT:Ss P T=true)(a b:Bool)(w:World):(Op.equal T (.bool a) (.bool b)).run P w = .ok (a==b) w:=by
 have e:∃n,Op.maxDepth=n+1:=⟨Op.maxDepth-1,wu⟩;obtain⟨n,e⟩:=e;unfold Op.equal;rw[e];unfold Op.equalIn;simp[run_underlying (vM hT)]
theorem pc{T:TypeId}{a b:Bool}(hT:Ss P T=true)(hx:ev m x=some (.bool a))(hy:ev m y=some (.bool b)):Qt P N m S (.binOp .eql T x y yT) ty (.bool (a==b)):=λs w _ _ _ _ ha _=>by
 simp only[execOp,ha.ev hx,ha.ev hy,eqGuard,binOp,Sem.run_bind,Sem.run_pure,Result.andThen_ok,N2 hT];rfl
theorem pZ{T:TypeId}{a b:Bool}(hT:Ss P T=true)(hx:ev m x=some (.bool a))(hy:ev m y=some (.bool b)):Qt P N m S (.binOp .neq T x y yT) ty (.bool (!(a==b))):=λs w _ _ _ _ ha _=>by
 simp only[execOp,ha.ev hx,ha.ev hy,eqGuard,binOp,Sem.run_bind,Sem.run_pure,Result.andThen_ok,N2 hT];rfl
end
structure Ri where
 neg:Bool
 r:Sr
 l:List Int
@[reducible] def Ri.v (x:Ri):Value:=.agg #[.bool x.neg,.slice x.r.q x.r.n x.r.cap]
def BD(neg:Bool)(l:List Int):Int:=if neg=true then -dv B9 l else dv B9 l
def KN(F:Gs)(x:Ri)(z:Int):Prop:=JP F x.r x.l/\DG B9 x.l/\NZ x.l/\z=BD x.neg x.l/\(x.neg=true->0<dv B9 x.l)
def KN.le{F':Gs}{x:Ri}(h:KN F x z)(k:Gs.le F F'):KN F' x z:=⟨h.1.le k,h.2⟩
abbrev Hv(P:Program)(f:FuncId)(args:List Value)(w:World)(F:Gs)(z:Int):Prop:=QU P f args w F Ri.v λx F=>KN F x z
structure V5(neg:Bool)(l:List Int)(z:Int):Prop where
 dg:DG B9 l
 nz:NZ l
 e:z=BD neg l
 ng:neg=true->0<dv B9 l
def KN.p{x:Ri}(h:KN F x z):V5 x.neg x.l z:=⟨h.2.1,h.2.2.1,h.2.2.2.1,h.2.2.2.2⟩
def V5.v0{neg:Bool}(h:V5 neg l z):0<=dv B9 l:=Q4 JJ h.dg
def V5.abs{neg:Bool}(h:V5 neg l z):(z.natAbs:Int)=dv B9 l:=by
 have:=h.v0;rw[h.e,BD];split<;>omega
theorem QEo(h:DG B9 l)(z:NZ l):l.length<=sz (dv B9 l):=by
 rcases Nat.eq_zero_or_pos l.length with g | g
 ·omega
 have h1:=Dj JJ h z (by intro e;rw[e]at g;simp at g);have h2:=BA (dv B9 l);have h3:=Q4 JJ h;rcases Nat.lt_or_ge (sz (dv B9 l)) l.length with q | q
 ·exfalso;have h4:(2:Int)^(l.length-1)<=B9^(l.length-1):=by
   have:∀n:Nat,(2:Int)^n<=B9^n:=by
    intro n
    induction n with
    |zero=>simp
    |succ n ih =>
     rw[Int.pow_succ,Int.pow_succ];exact Int.mul_le_mul ih wu wu (Int.le_of_lt (pow_pos JJ n))
   exact this _
  have h5:(2:Int)^sz (dv B9 l)<=2^(l.length-1):=Ig.YT wu O;have h6:((dv B9 l).natAbs:Int)<((2^sz (dv B9 l):Nat):Int):=Int.ofNat_lt.2 h2;rw[Int.natCast_pow]at h6;have:((2:Nat):Int)=2:=rfl;rw[this]at h6;omega
 exact q
def V5.len{neg:Bool}(h:V5 neg l z):l.length<=sz z:=by
 have:=QEo h.dg h.nz;have e:sz (dv B9 l)=sz z:=by
  rw[<-h.abs];unfold sz;simp
 omega
def V5.neg{neg:Bool}(h:V5 neg l z):neg=decide (z<0):=by
 have h0:=h.v0;cases neg with
 |true=>have:=h.ng I;have e:=h.e;simp only[BD,if_true]at e;symm;rw[decide_eq_true_eq];omega
 |false=>have e:=h.e;simp only[BD]at e;symm;rw[decide_eq_false_iff_not];simp at e;omega
def V5.zero{neg:Bool}(h:V5 neg l z):l=[]↔z=0:=by
 have:=KY Ff h.dg h.nz;have e:=h.abs;rw[<-this];omega
def qN(h:DG B9 l):(0<(JA l).length)↔0<dv B9 l:=by
 have h1:=KY Ff h.JA (Xm l);rw[XG]at h1;have h2:=Q4 JJ h;rw[<-List.length_eq_zero_iff]at h1;omega
theorem Zr{r:Sr}{neg:Bool}(hF:Fits F w)(hR:JP F r l)(dg:DG B9 l)(hl:l.length<=1000000000):Hv prog 165 [.bool neg,r.v] w F (BD neg l):=by
 obtain⟨q,n,c⟩:=r;have hn:=hR.2.1;dsimp only[Sr.v]at hn ⊢;have hlz:=Xp l;have htp:=qN dg;have hv0:=Q4 JJ dg;refine QU.intro (G:=λF=>JP F ⟨q,n,c⟩ l) func165 rfl wy rfl rfl hF (λF' hF'=>hR.le hF')<|QGi<|Qg ZB λb4=>QF4<|wR rfl<|QJ rfl (λ_ _ f k=>W8 f (r:=⟨q,n,c⟩) k (hl)) λc6=>wQ rfl<|wR rfl<|QF5 rfl ?_
 refine Qe (t:=8) rfl (λhb8=>?_) λhb8=>?_
 ·refine wB 3 I<|QA (Qf I Qk)<|wB 4 I<|QA (XL I jV ZB (wP I I I))<|QZ (vs:=[_,_]) I I I Q9 I .here .h2 wT<|QF4<|QT ?_
  exact QO ((⟨decide ((((JA l).length:Nat):Int)>0),⟨q,(JA l).length,c⟩,JA l⟩:Ri)) I (.Jv (c:=[_,_]) I Q9 .here .nil) (rfl) λF ⟨hR,h6⟩=>⟨h6,dg.JA,Xm _,by show BD neg l=BD (decide ((((JA l).length:Nat):Int)>0)) (JA l);rw[BD,BD,XG];cases neg<;>simp_all<;>omega,λhh=>by show 0<dv B9 (JA l);rw[XG];simp_all⟩
 refine wB 5 I<|QA (XL I jV ZB (wP I I I))<|QZ (vs:=[_,_]) I I I Q9 I .here .h2 wT<|QF4<|QT ?_
 exact QO ((⟨false,⟨q,(JA l).length,c⟩,JA l⟩:Ri)) I (.Jv (c:=[_,_]) I Q9 .here .nil) (rfl) λF ⟨hR,h6⟩=>⟨h6,dg.JA,Xm _,by show BD neg l=BD false (JA l);rw[BD,BD,XG];cases neg<;>simp_all<;>omega,λhh=>by show 0<dv B9 (JA l);rw[XG];simp_all⟩
theorem L3:Ss prog 4=true:=wm
def vK{x y:Int}(h:Za x y>=0):y<=x:=by
 unfold Za at h;split at h
 ·omega
 split at h<;>omega
def xk{x y:Int}(h:¬Za x y>=0):x<=y:=by
 unfold Za at h;split at h
 ·omega
 split at h<;>omega
theorem Un{x:Ri}(hF:Fits F w)(hx:KN F x zx)(hz:sz zx<=1000000):Hv prog 162 [x.v] w F (-zx):=by
 obtain⟨xn,⟨xq,xm,xc⟩,xl⟩:=x;have px:=hx.p;have lx:=px.len;have kx:=hx.1.2.1;have vx:=px.v0;dsimp only at px lx kx vx;dsimp only[Ri.v];have eqn : -zx=BD (!xn) xl:=by rw[px.e];cases xn<;>simp[BD]
 refine QU.intro (G:=λF=>KN F ⟨xn,⟨xq,xm,xc⟩,xl⟩ zx) func162 rfl wy rfl rfl hF (λF' hF'=>hx.le hF')<|QGi<|JE rfl (vs:=[_,_]) rfl λb1=>Qg ZB λb2=>QF4<|QGi<|QA (QH rfl KC WA)<|QA (Qh rfl WA .u1 .h1)<|QA (Jw rfl)<|QA (QH rfl XW Q5)<|QA (Qh rfl Q5 .u1 (.skip .h1))<|QJ rfl (λ_ _ f k=>Zr f (r:=⟨xq,xm,xc⟩) (l:=xl) (neg:=!xn) k.1 (px.dg) O) λc8=>QZ (vs:=[_,_]) rfl rfl rfl Q9 rfl .here .h2 wT<|QF4<|QT ?_
 exact QO (c8) rfl (.Jv (c:=[_,_]) I Q9 .here .nil) (rfl) λF h9=>(by rw[eqn];exact h9.2)
theorem YS{x y:Ri}{zy:Int}(hF:Fits F w)(hx:KN F x zx)(hy:KN F y zy)(hzx:sz zx<=1000000)(hzy:sz zy<=1000000):Hv prog 67 [x.v,y.v] w F (zx*zy):=by
 obtain⟨xn,⟨xq,xm,xc⟩,xl⟩:=x;have px:=hx.p;have lx:=px.len;have kx:=hx.1.2.1;have vx:=px.v0;dsimp only at px lx kx vx;obtain⟨yn,⟨yq,ym,yc⟩,yl⟩:=y;have py:=hy.p;have ly:=py.len;have ky:=hy.1.2.1;have vy:=py.v0;dsimp only at py ly ky vy;dsimp only[Ri.v];refine QU.intro (G:=λF=>KN F ⟨xn,⟨xq,xm,xc⟩,xl⟩ zx/\KN F ⟨yn,⟨yq,ym,yc⟩,yl⟩ zy) func67 rfl wy rfl rfl hF (λF' hF'=>⟨hx.le hF',hy.le hF'⟩)<|QGi<|JE rfl (vs:=[_,_]) rfl λb2=>JE rfl (vs:=[_,_]) rfl λb3=>Qg ZB λb4=>QF4<|QG<|JL (.cons _ tC) mixed wm<|QL (QH rfl KC WA)<|QL (Qh rfl WA .u1 .h1)<|QL (QH rfl KC WA)<|QL (Qh rfl WA .here .h1)<|QL (pZ L3 rfl rfl)<|QL (QH rfl XW Q5)<|QL (Qh rfl Q5 .u1 (.skip .h1))<|QL (QH rfl XW Q5)<|QL (Qh rfl Q5 .here (.skip .h1)) ?_
 refine Qc I (λ_ _ f k=>W9 f (a:=xl) (b:=yl) (ra:=⟨xq,xm,xc⟩) (rb:=⟨yq,ym,yc⟩) k.1.1 (k.2.1) (px.dg) (py.dg) O (by first | omega | (simp;done) | (simp;omega))) (λc14=>?_);rcases c14 with ⟨v14,l14⟩;dsimp only;refine V8 _ (λw F hF ⟨⟨hx,hy⟩,⟨h14,h14p⟩⟩=>And.intro h14.2 h14p) (λp14=>?_);have eqn:zx*zy=BD (!(xn==yn)) l14:=by
  have e14:=p14.2.2.1;rw[px.e,py.e];unfold BD;rw[e14];cases xn<;>cases yn<;>simp[Int.mul_neg,Int.neg_mul]
 have m14:=p14.2.2.2.2;refine Qc I (λ_ _ f k=>Zr f (r:=v14) (l:=l14) (neg:=!(xn==yn)) k.2.1 (p14.2.1) O) (λc15=>Ji (vs:=[_,_]) I I I Q9 I .here tC (λ_ h=>h.1.1) .h2 wT<|Q3<|QD<|QT ?_);exact QO (c15) rfl (.Jv (c:=[_,_]) I Q9 .here .nil) (rfl) λF h9=>(by rw[eqn];exact h9.2)
theorem LM{x y:Ri}{zy:Int}(hF:Fits F w)(hx:KN F x zx)(hy:KN F y zy)(hzx:sz zx<=1000000)(hzy:sz zy<=1000000):Hv prog 66 [x.v,y.v] w F (zx+zy):=by
 obtain⟨xn,⟨xq,xm,xc⟩,xl⟩:=x;have px:=hx.p;have lx:=px.len;have kx:=hx.1.2.1;have vx:=px.v0;dsimp only at px lx kx vx;obtain⟨yn,⟨yq,ym,yc⟩,yl⟩:=y;have py:=hy.p;have ly:=py.len;have ky:=hy.1.2.1;have vy:=py.v0;dsimp only at py ly ky vy;dsimp only[Ri.v];refine QU.intro (G:=λF=>KN F ⟨xn,⟨xq,xm,xc⟩,xl⟩ zx/\KN F ⟨yn,⟨yq,ym,yc⟩,yl⟩ zy) func66 rfl wy rfl rfl hF (λF' hF'=>⟨hx.le hF',hy.le hF'⟩)<|QGi<|JE rfl (vs:=[_,_]) rfl λb2=>JE rfl (vs:=[_,_]) rfl λb3=>Qg ZB λb4=>QHB 5 I<|QA (QH rfl KC WA)<|QA (Qh rfl WA .u2 .h1)<|QA (QH rfl KC WA)<|QA (Qh rfl WA .u1 .h1)<|QA (pc L3 rfl rfl)<|QE<|QD ?_
 refine QP I (λhc=>?_) λhc=>?_
 ·have hne:xn=yn:=by simpa using hc
  refine QG<|JL (.cons _ tC) mixed wm<|QL (QH I KC WA)<|QL (Qh I WA .u1 .h1)<|QL (QH I XW Q5)<|QL (Qh I Q5 .u1 (.skip .h1))<|QL (QH I XW Q5)<|QL (Qh I Q5 .here (.skip .h1)) ?_
  refine Qc I (λ_ _ f k=>TJ f (a:=xl) (b:=yl) (ra:=⟨xq,xm,xc⟩) (rb:=⟨yq,ym,yc⟩) k.1.1 (k.2.1) (px.dg) (py.dg) O (by first | omega | (simp;done) | (simp;omega))) (λc16=>?_);rcases c16 with ⟨v16,l16⟩;dsimp only;refine V8 _ (λw F hF ⟨⟨hx,hy⟩,⟨h16,h16p⟩⟩=>And.intro h16.2 h16p) (λp16=>?_);have eqn:zx+zy=BD xn l16:=by
   have e16:=p16.2.2.1;rw[px.e,py.e,hne];unfold BD;rw[e16];cases yn<;>simp<;>omega
  have m16:=p16.2.2.2;refine Qc I (λ_ _ f k=>Zr f (r:=v16) (l:=l16) (neg:=xn) k.2.1 (p16.2.1) O) (λc17=>Ji (vs:=[_,_]) I I I Q9 I .here tC (λ_ h=>h.1.1) .h2 wT<|Q3<|QD<|QT ?_);exact QO (c17) rfl (.Jv (c:=[_,_]) I Q9 .here .nil) (rfl) λF h9=>(by rw[eqn];exact h9.2)
 have hne:xn=!yn:=by cases xn<;>cases yn<;>simp_all
 refine QHC 5 I<|QA (QH I XW Q5)<|QA (Qh I Q5 .u2 (.skip .h1))<|QA (QH I XW Q5)<|QA (Qh I Q5 .u1 (.skip .h1))<|QJ I (λ_ _ f k=>Wm f (a:=xl) (b:=yl) (ra:=⟨xq,xm,xc⟩) (rb:=⟨yq,ym,yc⟩) k.1.1 (k.2.1) (px.dg) (py.dg) (px.nz) (py.nz) O O) λ_=>QHB 3 I ?_
 refine QP I (λhc=>?_) λhc=>?_
 ·have hle:dv B9 yl<=dv B9 xl:=vK (QGx hc);have hll:=Vs py.dg px.dg py.nz hle;refine QG<|JL (.cons _ tC) mixed wm<|QL (QH I KC WA)<|QL (Qh I WA .u1 .h1)<|QL (QH I XW Q5)<|QL (Qh I Q5 .u1 (.skip .h1))<|QL (QH I XW Q5)<|QL (Qh I Q5 .here (.skip .h1)) ?_
  refine Qc I (λ_ _ f k=>DP f (a:=xl) (b:=yl) (ra:=⟨xq,xm,xc⟩) (rb:=⟨yq,ym,yc⟩) k.1.1.1 (k.1.2.1) (px.dg) (py.dg) O O (hle)) (λc30=>?_);rcases c30 with ⟨v30,l30⟩;dsimp only;refine V8 _ (λw F hF ⟨⟨⟨hx,hy⟩,_⟩,⟨h30,h30p⟩⟩=>And.intro h30.2 h30p) (λp30=>?_);have eqn:zx+zy=BD xn l30:=by
   have e30:=p30.2.2.1;rw[px.e,py.e,hne];unfold BD;rw[e30];cases yn<;>simp<;>omega
  have m30:=p30.2.2.2;refine Qc I (λ_ _ f k=>Zr f (r:=v30) (l:=l30) (neg:=xn) k.2.1 (p30.2.1) O) (λc31=>Ji (vs:=[_,_]) I I I Q9 I .here tC (λ_ h=>h.1.1) .h2 wT<|Q3<|QD<|QT ?_);exact QO (c31) rfl (.Jv (c:=[_,_]) I Q9 .here .nil) (rfl) λF h9=>(by rw[eqn];exact h9.2)
 have hle:dv B9 xl<=dv B9 yl:=xk (QGy hc);have hll:=Vs px.dg py.dg px.nz hle;refine QHC 3 I<|JL (.cons _ tC) mixed wm<|QL (QH I KC WA)<|QL (Qh I WA .here .h1)<|QL (QH I XW Q5)<|QL (Qh I Q5 .here (.skip .h1))<|QL (QH I XW Q5)<|QL (Qh I Q5 .u1 (.skip .h1)) ?_
 refine Qc I (λ_ _ f k=>DP f (a:=yl) (b:=xl) (ra:=⟨yq,ym,yc⟩) (rb:=⟨xq,xm,xc⟩) k.1.2.1 (k.1.1.1) (py.dg) (px.dg) O O (hle)) (λc38=>?_);rcases c38 with ⟨v38,l38⟩;dsimp only;refine V8 _ (λw F hF ⟨⟨⟨hx,hy⟩,_⟩,⟨h38,h38p⟩⟩=>And.intro h38.2 h38p) (λp38=>?_);have eqn:zx+zy=BD yn l38:=by
  have e38:=p38.2.2.1;rw[px.e,py.e,hne];unfold BD;rw[e38];cases yn<;>simp<;>omega
 have m38:=p38.2.2.2;refine Qc I (λ_ _ f k=>Zr f (r:=v38) (l:=l38) (neg:=yn) k.2.1 (p38.2.1) O) (λc39=>Ji (vs:=[_,_]) I I I Q9 I .here tC (λ_ h=>h.1.1) .h2 wT<|Q3<|QD<|QT ?_);exact QO (c39) rfl (.Jv (c:=[_,_]) I Q9 .here .nil) (rfl) λF h9=>(by rw[eqn];exact h9.2)
structure QFS(A B:Int) where
 ra:Sr
 rb:Sr
 a:List Int
 b:List Int
 da:DG B9 a
 db:DG B9 b
 za:NZ a
 zb:NZ b
 la:a.length<=10000000
 lb:b.length<=10000000
 nb:b.length=rb.n
 h:Int.gcd (dv B9 a) (dv B9 b)=Int.gcd A B
def O6(x y:Int):Int.gcd y (x%y)=Int.gcd x y:=by
 rw[Int.gcd_comm y,Int.emod_def]
 first | rw[Int.gcd_sub_mul_left_left] | rw[Int.gcd_sub_mul_right_left] | rw[Int.gcd_sub_mul_left] | simp
theorem R9(hF:Fits F w)(hA:JP F ra a)(hB:JP F rb b)(da:DG B9 a)(db:DG B9 b)(za:NZ a)(zb:NZ b)(la:a.length<=10000000)(lb:b.length<=10000000):
  QU prog 159 [ra.v,rb.v] w F (λ(c:Sr×List Int)=>.slice c.1.q c.1.n c.1.cap) (λc F=>JP F c.1 c.2/\DG B9 c.2/\NZ c.2/\dv B9 c.2=(Int.gcd (dv B9 a) (dv B9 b):Int)):=by
 refine QU.intro (G:=λF=>JP F ra a/\JP F rb b) func159 rfl wy rfl rfl hF (λF' hF'=>⟨hA.le hF',hB.le hF'⟩)<|QGi<|wQ rfl<|QG<|QS<|Jo (ι:=QFS (dv B9 a) (dv B9 b)) [] (λi=>[(0,.slice i.ra.q i.ra.n i.ra.cap),(1,.slice i.rb.q i.rb.n i.rb.cap)]) (λi=>[]) (λi F=>JP F i.ra i.a/\JP F i.rb i.b) (λi=>(dv B9 i.b).toNat) (⟨ra,rb,a,b,da,db,za,zb,la,lb,hB.2.1,rfl⟩) trivial wT QGJ w9 λi=>?_
 simp only[List.cons_append,List.nil_append];have hla:=i.la;have hlb:=i.lb;have hnb:=i.nb;refine wA 4 I<|QA (Qf I Qk)<|QHB 3 I ?_
 refine QP I (λhc=>?_) λhc=>?_
 ·have hpos:0<dv B9 i.b:=by
   have h1:=KY Ff i.db i.zb;have h2:=Q4 JJ i.db;rw[<-List.length_eq_zero_iff]at h1;have:=QGx hc;omega
  have hm0:=Int.emod_nonneg (dv B9 i.a) (Int.ne_of_gt hpos);have hm1:=Int.emod_lt_of_pos (dv B9 i.a) hpos;refine QHC 3 I<|wR rfl<|QF5 rfl<|QJ rfl (λ_ _ f k=>GB f (a:=i.a) (b:=i.b) (ra:=i.ra) (rb:=i.rb) k.2.1 (k.2.2) (i.da) (i.db) (i.za) (i.zb) (hpos) O O) λc13=>QF5 rfl<|QA (QX rfl rfl)<|QA (QX rfl rfl)<|QF6 rfl<|wQ rfl<|Xe _ (λ_ _ f h=>And.intro h.2.2.2 h.2.2.1.2.1) λq13=>?_
  obtain⟨q13,n13⟩:=q13;refine wA 6 I<|Qi ?_
  exact Qj (⟨i.rb,c13.2.1,i.b,c13.2.2,i.db,q13.1,i.zb,q13.2.1,i.lb,by have:=Vs q13.1 i.db q13.2.1 (by rw[q13.2.2];omega);omega,n13,by rw[q13.2.2,O6];exact i.h⟩) (by show(dv B9 c13.2.2).toNat<(dv B9 i.b).toNat;rw[q13.2.2];omega) wT QGJ λF h9=>⟨⟨h9.1.1.1,h9.1.1.2⟩,⟨h9.1.2.2,h9.2.2.1⟩⟩
 have hz:i.b=[]:=by
  have:=QGy hc;exact List.eq_nil_of_length_eq_zero O
 refine Qv ?_
 repeat first|refine QV ?_|refine QQ wy ?_
 refine QW<|QHD 8 I ?_
 exact QO ((i.ra,i.a):Sr×List Int) rfl (wN I) (rfl) λF h9=>⟨h9.2.1,i.da,i.za,by have e:=i.h;rw[hz,To,Int.gcd_zero_right]at e;have:=Q4 JJ i.da;show dv B9 i.a=_;omega⟩
section
variable{P:Program}{N:Nat}{m:Sl}{S:World->Prop}{ty:TypeId}
def jH{T:TypeId}{a b:Int}(hx:ev m x=some (.int .i64 a))(hy:ev m y=some (.int .i64 b))(h:1<b)(h0 : -9223372036854775808<=a)(h1:a<=9223372036854775807):Qt P N m S (.binOp .quo T x y yT) ty (.int .i64 (a.tdiv b)):=by
 have:=LS (P:=P) (N:=N) (m:=m) (S:=S) (ty:=ty) (T:=T) (yT:=yT) hx hy O;have e:=Int.natAbs_tdiv a b;have e2:a.natAbs.div b.natAbs<=a.natAbs:=Nat.div_le_self _ _;have e3:a.natAbs.div b.natAbs<=a.natAbs/2:=Nat.div_le_div_left O wu;rw[IntWalk.i64_in _ O]at this;exact this
end
def TB(neg:Bool)(m:Nat):Int:=if neg=true then -(m:Int)else(m:Int)
def yY(neg:Bool)(m:Nat):(TB neg m).tmod 1000000000=TB neg (m%1000000000):=by
 unfold TB;split
 ·rw[Int.neg_tmod];exact congrArg Neg.neg (Int.ofNat_tmod m 1000000000).symm
 exact(Int.ofNat_tmod m 1000000000).symm
def LK(neg:Bool)(m:Nat):(TB neg m).tdiv 1000000000=TB neg (m/1000000000):=by
 unfold TB;split
 ·rw[Int.neg_tdiv];exact congrArg Neg.neg (Int.ofNat_tdiv m 1000000000).symm
 exact(Int.ofNat_tdiv m 1000000000).symm
def qm(n:Int):n=TB (decide (n<0)) n.natAbs:=by
 unfold TB;by_cases h:n<0
 ·simp[h];omega
 simp[h];omega
def EG(neg:Bool)(m:Nat):TB neg m=m\/TB neg m = -(m:Int):=by
 unfold TB;split
 ·exact .inr rfl
 exact .inl rfl
structure WhI(M:Nat) where
 m:Nat
 out:List Int
 v:Value
 ob:List (Nat×Obj)
 le:m<=M
 l3:out.length<=3
 dg:DG B9 out
 h:dv B9 out+B9^out.length*(m:Int)=M
 hr:Q6 3 1 v out.length (out.map Q7) ob
theorem WhI.two{M:Nat}(i:WhI M)(hM:M<=9223372036854775808)(h0:0<i.m):i.out.length<=2:=by
 rcases Nat.lt_or_ge 2 i.out.length with g | g
 ·exfalso;have e:i.out.length=3:=wk i.l3;have h:=i.h;have h1:=Q4 JJ i.dg;rw[e]at h;have h2:B9^3*1<=B9^3*(i.m:Int):=Int.mul_le_mul_of_nonneg_left O wu;have h3:B9^3=1000000000000000000000000000:=wu;rw[h3]at h2 h;omega
 exact g
def I6{m M:Nat}(h:dv B9 l+B9^l.length*(m:Int)=M):dv B9 (l++[((m%1000000000:Nat):Int)])+B9^(l++[((m%1000000000:Nat):Int)]).length*((m/1000000000:Nat):Int)=M:=by
 rw[XX,List.length_append,List.length_singleton,Int.pow_succ,Int.mul_assoc,Int.add_assoc,<-Int.mul_add,<-h];have e:((m%1000000000:Nat):Int)+B9*((m/1000000000:Nat):Int)=m:=by
  have h9:B9=1000000000:=rfl;rw[h9];omega
 rw[e]
theorem Hj{n:Int}(hF:Fits F w)(hn : -9223372036854775808<=n/\n<=9223372036854775807):Hv prog 98 [.int .i64 n] w F n:=by
 refine QU.intro (G:=λF=>True) func98 rfl wy rfl rfl hF w8<|QGi<|Qg ZB λb2=>QF4<|QGi<|wQ rfl<|wR rfl<|QA (QN rfl rfl rfl)<|wQ rfl<|QG<|QS<|Jo (ι:=WhI n.natAbs) [(2,_),(4,_)] (λi=>[(0,.int .i64 (TB (decide (n<0)) i.m)),(3,i.v)]) (λi=>(b2,.cells [.bool false,.slice none 0 0].toArray 123 (0,0))::i.ob) (λi F=>True) (λi=>i.m) (⟨n.natAbs,[],.slice none 0 0,[],Nat.le_refl _,wz,DG.nil _,wz,.nil⟩) wT ⟨congrArg (λz:Int=>some (Value.int .i64 z)) (qm n),rfl,trivial⟩ QGJ w8 λi=>?_
 simp only[List.cons_append,List.nil_append];have hle:=i.le;have hM:n.natAbs<=9223372036854775808:=O;have hcs:=EG (decide (n<0)) i.m;have hsr : -9223372036854775808<=TB (decide (n<0)) i.m/\TB (decide (n<0)) i.m<=9223372036854775807:=by unfold TB;split<;>rename_i g<;>simp at g<;>omega
 refine wA 7 I ?_;refine QP I (λhc=>?_) λhc=>?_
 ·have h9:B9=1000000000:=rfl;have hm0:0<i.m:=by
   rcases Nat.eq_zero_or_pos i.m with g | g
   ·rw[g]at hc;cases hd:decide (n<0)<;>simp[TB,hd]at hc
   exact g
  have l2:=i.two hM hm0;refine QHC 6 I<|QA (gM I I wu) ?_
  rw[yY];refine QHB 10 I ?_;refine QP I (λhc=>?_) λhc=>?_
  ·have e1:TB (decide (n<0)) (i.m%1000000000) = -(((i.m%1000000000):Nat):Int):=by
    have:=QGx hc;rcases EG (decide (n<0)) (i.m%1000000000)with g | g<;>omega
   rw[e1];refine wA 2 I<|QA (J1 I I O)<|QHB 7 I<|Qs I (JU Qk) Qu BR I I λb18=>X1 (bs':=[(b2,.cells [.bool false,.slice none 0 0].toArray 123 (0,0))]++i.ob) (List.Perm.refl _) ?_
   refine YC (ob:=i.ob) (k:=1) (sz:=1) (news:=[.int .i64 (0 - -(((i.m%1000000000):Nat):Int))]) I I Qk Qu BR I D7 i.hr (Src.row (off:=0) tB (λj v hv=>by rw[Nat.zero_add];show([.int .i64 (0 - -(((i.m%1000000000):Nat):Int))].toArray)[j]?=some v;rw[List.getElem?_toArray];exact hv) rfl) O O (Z7 wS) (λv19 ob19 hr19=>?_);refine QHB 5 I<|QA (jH I I wu O O) ?_
   rw[LK];refine wB 2 I<|Qi ?_
   exact Qj (⟨i.m/1000000000,i.out++[(((i.m%1000000000):Nat):Int)],v19,ob19,O,by rw[List.length_append,List.length_singleton];omega,i.dg.append (DG.cons O (by show _<B9;rw[h9];omega) (DG.nil _)),I6 i.h,by simpa[Q7]using hr19⟩) (by show i.m/1000000000<i.m;omega) wV QGJ λF h=>⟨h.1.1,trivial⟩
  have e1:TB (decide (n<0)) (i.m%1000000000)=(((i.m%1000000000):Nat):Int):=by
   have:=QGy hc;rcases EG (decide (n<0)) (i.m%1000000000)with g | g<;>omega
  rw[e1];refine QHC 6 I<|Qs I (JU Qk) Qu BR I I λb18=>X1 (bs':=[(b2,.cells [.bool false,.slice none 0 0].toArray 123 (0,0))]++i.ob) (List.Perm.refl _) ?_
  refine YC (ob:=i.ob) (k:=1) (sz:=1) (news:=[.int .i64 ((((i.m%1000000000):Nat):Int))]) I I Qk Qu BR I D7 i.hr (Src.row (off:=0) tB (λj v hv=>by rw[Nat.zero_add];show([.int .i64 ((((i.m%1000000000):Nat):Int))].toArray)[j]?=some v;rw[List.getElem?_toArray];exact hv) rfl) O O (Z7 wS) (λv19 ob19 hr19=>?_);refine QHB 5 I<|QA (jH I I wu O O) ?_
  rw[LK];refine wB 2 I<|Qi ?_
  exact Qj (⟨i.m/1000000000,i.out++[(((i.m%1000000000):Nat):Int)],v19,ob19,O,by rw[List.length_append,List.length_singleton];omega,i.dg.append (DG.cons O (by show _<B9;rw[h9];omega) (DG.nil _)),I6 i.h,by simpa[Q7]using hr19⟩) (by show i.m/1000000000<i.m;omega) wV QGJ λF h=>⟨h.1.1,trivial⟩
 have hm0:i.m=0:=by
  rcases hcs with g | g
  ·rw[g]at hc;simp at hc;exact hc
  rw[g]at hc;simp at hc;exact hc
 refine Qv ?_
 repeat first|refine QV ?_|refine QQ wy ?_
 refine QW<|QD<|QG ?_
 have hfin:=i.h;rw[hm0]at hfin;have l3:=i.l3;obtain⟨r,hv,hrn,hrc,hfix⟩:=Q6.fix (w0:=w) (F0:=F) (bs1:=[(b2,.cells [.bool false,.slice none 0 0].toArray 123 (0,0))]) (G:=λF=>True/\True) i.hr;refine MS hfix ?_;rw[hv];refine wA 3 I<|QJ I (λ_ _ f k=>Zr f (r:=r) (l:=i.out) (neg:=decide (n<0)) ⟨by rw[hrn];exact k.2,by rw[hrn],O⟩ (i.dg) O) λc24=>QZ (vs:=[_,_]) I I I Q9 I .here .h2 wT<|QF4<|QT ?_
 have e:n=BD (decide (n<0)) i.out:=by
  have e2:=qm n;unfold BD;unfold TB at e2;split at e2<;>rename_i hs<;>simp only[hs]<;>simp<;>omega
 exact QO (c24) rfl (.Jv (c:=[_,_]) I Q9 .here .nil) (rfl) λF ⟨⟨⟨hT,_⟩,hX⟩,h24⟩=>(by rw[<-e]at h24;exact h24)
theorem WI{x:Int}{least:Nat}(hF:Fits F w)(h0:0<=x)(hn:x<=9223372036854775807)(hl:least<=1000):Qb prog 100 [.int .i64 x,.int .i64 (least:Int)] w F (tx (EY x.toNat least)):=by
 have:=F9 (n:=x.toNat) (least:=least) hF O hl;rw[Int.toNat_of_nonneg h0]at this;exact this
def P2(h:0<n):EY n 1=Lib.decDigits n:=by
 have hne:(Lib.decDigits n).length≠0:=λe=>Yc n (List.eq_nil_of_length_eq_zero e);unfold EY hd Vp;rw[if_neg O,show 1-(Lib.decDigits n).length=0 by omega];rfl
def Sj(n:Nat):EY n 9=Vp 9 (Lib.decDigits n):=by
 unfold EY hd;split
 ·rename_i h;subst h;rw[X7];decide
 rfl
theorem BL(h:n<1000000000):(EY n 9).length=9:=by
 rw[Sj,U7];have:=Zj (u:=n) (k:=9) O wu;rw[Lib.decDigits_length];exact this
structure zB(l:List Int) where
 k:Nat
 s:List UInt8
 le:k<l.length
 ps:0<dv B9 (l.drop k)
 sl:s.length<=20+9*(l.length-k)
 h:s=Lib.decDigits (dv B9 (l.drop k)).toNat
theorem Hp(hd:DG B9 l)(hz:NZ l)(h0:0<l.length):dv B9 (l.drop (l.length-1))=Qd l (l.length-1)/\0<Qd l (l.length-1):=by
 have e:=XH (l:=l) (k:=l.length-1) O;rw[List.drop_of_length_le (i:=l.length-1+1) O]at e;refine⟨by rw[e];simp[dv],?_⟩;obtain⟨h1,_⟩:=TT (n:=l.length-1) hd hz O;omega
def zB.start{l:List Int}(hd:DG B9 l)(hz:NZ l)(h0:0<l.length):zB l:=⟨l.length-1,EY (Qd l (l.length-1)).toNat 1,O,by rw[(Hp hd hz h0).1];exact(Hp hd hz h0).2,by
  have b:=hd.Qd JJ (l.length-1);have h9:B9=1000000000:=rfl;rw[P2 (wk<|(Hp hd hz h0).2),Lib.decDigits_length];have:=Zj (u:=(Qd l (l.length-1)).toNat) (k:=9) (by rw[h9]at b;omega) wu;omega,by
  rw[P2 (wk<|(Hp hd hz h0).2),(Hp hd hz h0).1]⟩
def zB.add(i:zB l)(hd:DG B9 l)(hk:0<i.k):dv B9 (l.drop (i.k-1))=Qd l (i.k-1)+B9*dv B9 (l.drop i.k):=by
 have hle:=i.le;rw[XH O,Yb,show i.k-1+1=i.k by omega]
def zB.next{l:List Int}(i:zB l)(hd:DG B9 l)(hk:0<i.k):zB l:=⟨i.k-1,i.s++EY (Qd l (i.k-1)).toNat 9,wk i.le,by
  rw[i.add hd hk];have b:=hd.Qd JJ (i.k-1);have p:=i.ps;have:B9*1<=B9*dv B9 (l.drop i.k):=Int.mul_le_mul_of_nonneg_left O wu;have h9:B9=1000000000:=rfl;omega,by
  have b:=hd.Qd JJ (i.k-1);have h9:B9=1000000000:=rfl;rw[h9]at b;have hle:=i.le;have hsl:=i.sl;rw[List.length_append,BL O];omega,by
  have b:=hd.Qd JJ (i.k-1);have h9:B9=1000000000:=rfl;rw[h9]at b;have p:=i.ps;have e:=VA (q:=(dv B9 (l.drop i.k)).toNat) O 9 (Qd l (i.k-1)).toNat wu O;rw[Sj,i.h,<-e,i.add hd hk];congr 1;generalize dv B9 (l.drop i.k)=D at *
  rw[h9];omega⟩
theorem TF{x:Ri}(hF:Fits F w)(hx:KN F x zx)(hz:sz zx<=1000000):Qb prog 164 [x.v] w F (tx (XV zx)):=by
 obtain⟨xn,⟨xq,xm,xc⟩,xl⟩:=x;have px:=hx.p;have lx:=px.len;have kx:=hx.1.2.1;have vx:=px.v0;dsimp only at px lx kx vx;dsimp only[Ri.v];have h9:B9=1000000000:=rfl;refine QU.intro (G:=λF=>KN F ⟨xn,⟨xq,xm,xc⟩,xl⟩ zx) func164 rfl wy rfl rfl hF (λF' hF'=>hx.le hF')<|QGi<|JE rfl (vs:=[_,_]) rfl λb1=>wQ rfl<|QG<|QGi<|QA (QH rfl XW Q5)<|QA (Qh rfl Q5 .here (.skip .h1))<|QA (Qf rfl Qk)<|QA (QN rfl rfl rfl)<|QE<|QD ?_
 refine QP I (λhc=>?_) λhc=>?_
 ·have hx0:zx=0:=(px.zero).1 (List.eq_nil_of_length_eq_zero (by have:=hc;simp at this;omega));refine wA 6 I ?_;exact QHT I I (by rw[hx0,Jh wu];exact congrArg (λl=>tx l) X7) w8
 have hl0:0<xl.length:=by
  rcases Nat.eq_zero_or_pos xm with g | g
  ·rw[g]at hc;simp at hc
  omega
 obtain⟨d1,d2⟩:=Hp px.dg px.nz hl0;have b0:=px.dg.Qd JJ (xl.length-1);rw[h9]at b0;refine QHC 4 I<|QA (QH I XW Q5)<|QA (Qh I Q5 .here (.skip .h1))<|QA (QH I XW Q5)<|QA (Qh I Q5 .here (.skip .h1))<|QA (Qf I Qk)<|QA (J1 I I O)<|QA (Q2 (n:=xm) (xl.length-1) (λF hx=>(hx.1).1) rfl wM Qk Qu O)<|QA (Qz (n:=xm) ((xl.length-1)*1) (λF hx=>(hx.1).1) O I Qu (JH (o:=xl) O))<|QJ I (λ_ _ f k=>WI f (least:=1) O O O) λ_=>QHB 6 I<|QA (QH I XW Q5)<|QA (Qh I Q5 .here (.skip .h1))<|QA (Qf I Qk)<|QA (J1 I I O)<|wB 2 I ?_
 refine QD<|QS<|J2 (ι:=zB xl) [(1,_)] (λi=>[(3,tx i.s),(4,.int .i64 ((i.k:Int)-1))]) (λi=>i.k) (zB.start px.dg px.nz hl0) wS ⟨rfl,(congrArg (λz:Int=>some (Value.int .i64 z)) (by simp only[zB.start];omega)),trivial⟩ λi=>?_
 simp only[List.cons_append,List.nil_append];have hle:=i.le;have hsl:=i.sl;refine wA 7 I ?_;refine QP I (λhc=>?_) λhc=>?_
 ·have hk0:0<i.k:=wk<|QGx hc
  have b1:=px.dg.Qd JJ (i.k-1);rw[h9]at b1;have ln:=BL (n:=(Qd xl (i.k-1)).toNat) O;refine QHC 6 I<|QA (QH I XW Q5)<|QA (Qh I Q5 .here (.skip .h1))<|QF5 I<|QA (Q2 (n:=xm) (i.k-1) (λF h9=>(h9.1.1).1) rfl wM Qk Qu O)<|QA (Qz (n:=xm) ((i.k-1)*1) (λF h9=>(h9.1.1).1) O I Qu (JH (o:=xl) O))<|QJ I (λ_ _ f k=>WI f (least:=9) O O O) λ_=>QA (Xd I I O)<|wB 2 I<|Qi<|QHD 3 I<|QA (J1 I I O)<|wB 2 I ?_
  exact Qj (i.next px.dg hk0) (by show i.k-1<i.k;omega) ⟨rfl,rfl,(congrArg (λz:Int=>some (Value.int .i64 z)) (by simp only[zB.next];omega)),trivial⟩ QGJ tA
 have hk0:i.k=0:=wk<|QGy hc
 have hi:=i.h;rw[hk0,List.drop_zero]at hi;have ha:=px.abs;refine Qv ?_
 repeat first|refine QV ?_|refine QQ wy ?_
 refine QW<|QHD 4 I<|QA (QH I KC WA)<|QA (Qh I WA .here .h1)<|QE<|QD ?_
 refine QP I (λhc=>?_) λhc=>?_
 ·have hneg:zx<0:=by have:=px.neg;rw[hc]at this;exact QGx this.symm
  refine wR I<|QA (Xd I I w6)<|wQ I<|QT ?_
  exact QHT I I (by rw[ZT hneg,hi];exact congrArg (λn=>tx (45::Lib.decDigits n)) O) w8
 have hneg:¬zx<0:=by have:=px.neg;rw[hc]at this;exact QGy this.symm
 refine QHC 9 I ?_;exact QHT I I (by rw[Jh O,hi];exact congrArg (λn=>tx (Lib.decDigits n)) O) w8
structure PaI(s:List UInt8) where
 s':List UInt8
 out:List Int
 v:Value
 ob:List (Nat×Obj)
 dg:DG B9 out
 al:XT s'=true
 ll:s'.length+9*out.length<=s.length
 h:(JF s':Int)*B9^out.length+dv B9 out=JF s
 hr:Q6 3 1 v out.length (out.map Q7) ob
def AM:((10^9:Nat):Int)=B9:=wu
theorem y5{s:List UInt8}(h:(JF s:Int)*B9^out.length+dv B9 out=z)(hl:9<=s.length):(JF (s.take (s.length-9)):Int)*B9^(out++[(JF (s.drop (s.length-9)):Int)]).length+dv B9 (out++[(JF (s.drop (s.length-9)):Int)])=z:=by
 have e:=YG (s.take (s.length-9)) (s.drop (s.length-9));rw[List.take_append_drop,List.length_drop,show s.length-(s.length-9)=9 by omega]at e;rw[XX,List.length_append,List.length_singleton,Int.pow_succ,<-h,e,Int.natCast_add,Int.natCast_mul,AM];generalize B9^out.length=p;generalize ((JF (s.take (s.length-9)):Nat):Int)=a;generalize ((JF (s.drop (s.length-9)):Nat):Int)=b;generalize B9=B
 grind
theorem Bh(h:Lib.hasPrefix s [45]=true):1<=s.length:=by
 rcases Nat.eq_zero_or_pos s.length with g | g
 ·rw[List.eq_nil_of_length_eq_zero g]at h;simp[Lib.hasPrefix]at h
 omega
theorem H6{P:Program}{ops:Array Oper}{l:List Oper}{E E':Env}(h:∀w,St E w->St E' w)(k:JS P ops Q l N m E'):JS P ops Q l N m E:=λa w ha hw=>k a w ha (h w hw)
def p8{t:List UInt8}(h:(JF t:Int)*B9^out.length+dv B9 out=JF (Lib.trimPrefix s [45])):BD (Lib.hasPrefix s [45]) (out++[(JF t:Int)])=Zx s:=by
 have e:dv B9 (out++[(JF t:Int)])=JF (Lib.trimPrefix s [45]):=by
  rw[XX,<-h,Int.mul_comm];omega
 unfold BD Zx;rw[e];unfold Lib.trimPrefix;cases Lib.hasPrefix s [45]<;>simp
def R7{s:List UInt8}(h:XT s=true)(hl:s.length<=9):(JF s:Int)<B9:=by
 have h1:=VM h;have h2:10^s.length<=10^9:=Nat.pow_le_pow_right wu hl;have h3:=AM;omega
theorem Wk(hF:Fits F w)(hs:XT (Lib.trimPrefix s [45])=true)(hl:s.length<=1000000):Hv prog 161 [tx s] w F (Zx s):=by
 refine QU.intro (G:=λF=>True) func161 rfl wy rfl rfl hF w8<|QGi<|Qg ZB λb2=>QE<|QD ?_
 refine X8 [(0,_),(2,_)] [(3,.bool (Lib.hasPrefix s [45]))] wT ?_ ?_
 ·refine wA 2 I<|QA (Js I XC)<|wB 2 I ?_
  refine Qe (t:=8) rfl (λhb8=>?_) λhb8=>?_
  ·refine wB 3 I<|QA (Y5 (i:=0) rfl rfl XC (wk<|QGx hb8))<|wB 5 I ?_
   exact JB ⟨rfl,rfl,(congrArg (λb=>some (Value.bool b)) (by have h0:0<s.length:=(wk<|QGx hb8);rw[Y7 h0];exact Gt I)),trivial⟩ QGJ w9
  refine wB 6 I ?_;exact JB ⟨rfl,rfl,(congrArg (λb=>some (Value.bool b)) (by have h0:s.length=0:=(wk<|QGy hb8);rw[List.eq_nil_of_length_eq_zero h0];rfl)),trivial⟩ QGJ w9
 simp only[List.cons_append,List.nil_append];refine X8 [(2,_),(3,_)] [(0,tx (Lib.trimPrefix s [45]))] wT ?_ ?_
 ·refine wA 5 I ?_;refine QP I (λhc=>?_) λhc=>?_
  ·refine wA 2 I<|QA (Zy (1) rfl rfl XC I (Bh hc))<|wB 2 I ?_
   exact JB ⟨rfl,rfl,(congrArg (λl=>some (tx l)) (by unfold Lib.trimPrefix;rw[if_pos hc];rfl)),trivial⟩ QGJ w9
  refine QM ?_;exact JB ⟨rfl,rfl,(congrArg (λl=>some (tx l)) (by unfold Lib.trimPrefix;rw[hc];rfl)),trivial⟩ QGJ w9
 simp only[List.cons_append,List.nil_append];have hln:(Lib.trimPrefix s [45]).length<=s.length:=Nt _ _;refine wA 7 I<|Jo (ι:=PaI (Lib.trimPrefix s [45])) [(2,_),(3,_)] (λi=>[(0,tx i.s'),(4,i.v)]) (λi=>(b2,.cells [.bool false,.slice none 0 0].toArray 123 (0,0))::i.ob) (λi F=>True) (λi=>i.s'.length) (⟨Lib.trimPrefix s [45],[],.slice none 0 0,[],DG.nil _,hs,wz,wz,.nil⟩) wT wT QGJ w8 λi=>?_
 simp only[List.cons_append,List.nil_append];have hll:=i.ll;refine wA 4 I<|QA (Js I XC)<|QHB 3 I ?_
 refine QP I (λhc=>?_) λhc=>?_
 ·have h9:9<i.s'.length:=wk<|QGx hc
  refine QHC 8 I<|QA (Js I XC)<|QA (J1 I I O)<|QA (Zy (i.s'.length-9) rfl rfl XC wM O)<|QJ I (λ_ _ f k=>DO f (Ee i.al _) (by rw[List.length_drop];omega)) λ_=>Qs I (JU Qk) Qu BR I I λb26=>X1 (bs':=[(b2,.cells [.bool false,.slice none 0 0].toArray 123 (0,0))]++i.ob) (List.Perm.refl _) ?_
  refine YC (ob:=i.ob) (k:=1) (sz:=1) (news:=[.int .i64 ((JF (i.s'.drop (i.s'.length-9)):Int))]) I I Qk Qu BR I D7 i.hr (Src.row (off:=0) tB (λj v hv=>by rw[Nat.zero_add];show([.int .i64 ((JF (i.s'.drop (i.s'.length-9)):Int))].toArray)[j]?=some v;rw[List.getElem?_toArray];exact hv) rfl) O O (Z7 wS) (λv27 ob27 hr27=>?_);refine QHB 6 I<|QA (Js I XC)<|QA (J1 I I O)<|QA (WK (i.s'.length-9) rfl rfl XC wM O)<|wB 2 I<|Qi ?_
  exact Qj (⟨i.s'.take (i.s'.length-9),i.out++[(JF (i.s'.drop (i.s'.length-9)):Int)],v27,ob27,i.dg.append (DG.cons O (R7 (Ee i.al _) (by rw[List.length_drop];omega)) (DG.nil _)),Hr i.al _,by rw[List.length_take,List.length_append,List.length_singleton];omega,y5 i.h O,by simpa[Q7]using hr27⟩) (by show(i.s'.take (i.s'.length-9)).length<i.s'.length;rw[List.length_take];omega) wV QGJ λF h=>⟨h.1.1.1,trivial⟩
 have h9:i.s'.length<=9:=wk<|QGy hc
 refine Qv ?_
 repeat first|refine QV ?_|refine QQ wy ?_
 refine QW<|QHD 6 I<|QJ I (λ_ _ f k=>DO f (i.al) O) λ_=>Qs I (JU Qk) Qu BR I I λb37=>X1 (bs':=[(b2,.cells [.bool false,.slice none 0 0].toArray 123 (0,0))]++i.ob) (List.Perm.refl _) ?_
 refine YC (ob:=i.ob) (k:=1) (sz:=1) (news:=[.int .i64 ((JF i.s':Int))]) I I Qk Qu BR I D7 i.hr (Src.row (off:=0) tB (λj v hv=>by rw[Nat.zero_add];show([.int .i64 ((JF i.s':Int))].toArray)[j]?=some v;rw[List.getElem?_toArray];exact hv) rfl) O O (Z7 wS) (λv38 ob38 hr38=>?_);obtain⟨r,hv,hrn,hrc,hfix⟩:=Q6.fix (w0:=w) (F0:=F) (bs1:=[(b2,.cells [.bool false,.slice none 0 0].toArray 123 (0,0))]) (G:=_) hr38;refine H6 hfix ?_;rw[hv];refine QJ I (λw F hF ⟨⟨⟨⟨hT,_⟩,_⟩,hs37⟩,hX⟩=>Zr hF (r:=r) (l:=i.out++[(JF i.s':Int)]) (neg:=Lib.hasPrefix s [45]) ⟨by rw[hrn];simpa[Q7]using hX,by rw[hrn];simp,O⟩ (i.dg.append (DG.cons O (R7 i.al h9) (DG.nil _))) (by first | omega | (simp;omega))) (λc39=>QZ (vs:=[_,_]) I I I Q9 I .here .h2 wT<|QF4<|QT ?_);exact QO (c39) rfl (.Jv (c:=[_,_]) I Q9 .here .nil) (rfl) λF ⟨⟨⟨⟨⟨hT,_⟩,_⟩,hs37⟩,hX⟩,h39⟩=>(by rw[p8 i.h]at h39;exact h39)
theorem Hn(z:Int):(XV z).length<=sz z+2:=by
 have h:(Lib.decDigits z.natAbs).length<=sz z+1:=by
  rw[Lib.decDigits_length];refine Zj ?_ O;have h1:=BA z;have h2:2^sz z<=10^sz z:=Nat.pow_le_pow_left wu _;have h3:10^sz z<=10^(sz z+1):=Nat.pow_le_pow_right wu O;omega
 rcases Int.lt_or_le z 0 with g | g
 ·rw[ZT g,List.length_cons];omega
 rw[Jh g];omega
def TZ(n:Nat):(Lib.decDigits n).length<=sz (n:Int)+1:=by
 rw[Lib.decDigits_length];refine Zj ?_ O;have h1:=BA (n:Int);have h2:2^sz (n:Int)<=10^sz (n:Int):=Nat.pow_le_pow_left wu _;have h3:10^sz (n:Int)<=10^(sz (n:Int)+1):=Nat.pow_le_pow_right wu O;simp at h1;omega
def GI(x:Rat):(JO x).length<=2*Jn x+4:=by
 have h1:=Hn x.num;have h2:=TZ x.den;have h3:=Jc x;have h4:=JZ x;unfold JO;split
 ·omega
 rw[List.length_append,List.length_cons];omega
def Sv{l:List UInt8}(h:l.contains 47=false):l.all (λc=>!Jx c)=true:=by
 rw[List.all_eq_true];intro c hc;have:c≠47:=by rintro rfl;simp[hc]at h
 simp[Jx,this]
def Vf(z:Int):(XV z).contains 47=false:=DW z wu wu
def MY{x:Rat}(h:x.den=1):JO x=XV x.num/\ahead Jx (JO x)=(JO x).length:=by
 have e:JO x=XV x.num:=by unfold JO;rw[if_pos h]
 exact⟨e,by rw[e];exact Sx (Sv (Vf _))⟩
def Vi{x:Rat}(h:x.den≠1):ahead Jx (JO x)=(XV x.num).length/\ahead Jx (JO x)<(JO x).length/\(JO x).take (ahead Jx (JO x))=XV x.num/\(JO x).drop (ahead Jx (JO x)+1)=Lib.decDigits x.den:=by
 have e:JO x=XV x.num++47::Lib.decDigits x.den:=by unfold JO;rw[if_neg h]
 have h1:ahead Jx (JO x)=(XV x.num).length:=by
  refine Sw (by rw[e];simp) ?_ ?_
  ·rw[e,List.take_append_of_le_length (Nat.le_refl _),List.take_length];exact Sv (Vf _)
  simp[e,Jx]
 rw[h1];refine⟨rfl,by rw[e];simp,?_,?_⟩
 ·rw[e];simp
 rw[e,List.drop_append];simp
theorem RX(x:Rat):(ahead Jx (JO x)=(JO x).length)↔x.den=1:=by
 constructor
 ·intro h;by_cases g:x.den=1
  ·exact g
  have:=(Vi g).2.1;omega
 intro h;exact(MY h).2
def SH(z:Int):XT (Lib.trimPrefix (XV z) [45])=true:=by rw[Vd];exact JR _
def CH(n:Nat):XT (Lib.trimPrefix (Lib.decDigits n) [45])=true:=by rw[Yo (JR n)];exact JR _
def OW(n:Nat):Zx (Lib.decDigits n)=n:=by rw[ZE (JR n),Jp]
@[reducible] def Ri.v2 (c:Ri×Ri):Value:=.tuple #[c.1.v,c.2.v]
theorem Km{x:Rat}(hF:Fits F w)(hl:Jn x<=100000):QU prog 64 [tx (JO x)] w F Ri.v2 (λc F=>KN F c.1 x.num/\KN F c.2 x.den):=by
 have hlen:=GI x;refine QU.intro (G:=λF=>True) func64 rfl wy rfl rfl hF w8<|QGi<|Qg ZB λb2=>Qg ZB λb3=>QF4<|wR rfl<|wQ rfl<|wR rfl<|QJ rfl (λ_ _ f k=>Wj f O) λ_=>wQ rfl<|QG<|wR rfl<|QF5 rfl ?_
 refine QA (Js I XC)<|QHB 3 I ?_
 refine QP I (λhc=>?_) λhc=>?_
 ·have hd:x.den=1:=(RX x).1 (by have:(ahead Jx (JO x):Int)=((JO x).length:Int):=(by simpa using hc);omega);rw[(MY hd).1];refine wR I<|QJ I (λ_ _ f k=>Wk f (SH _) (by have:=Hn x.num;have:=Jc x;omega)) λc14=>QJ I (λ_ _ f k=>Hj f wu) λc15=>QZ (vs:=[_,_]) I I I Q9 I .u1 .h2 wT<|QZ (vs:=[_,_]) I I I Q9 I .here .h2 wT<|QF4<|QT ?_
  exact J9 ((c14,c15):Ri×Ri) rfl (.Jv (c:=[_,_]) I Q9 .u1 (.Jv (c:=[_,_]) I Q9 .here .nil)) (rfl) λF ⟨⟨⟨hT,_⟩,h14⟩,h15⟩=>⟨by rw[ZS]at h14;exact h14,by have e:(x.den:Int)=1:=(by rw[hd];rfl);rw[e];exact h15⟩
 have hd:¬x.den=1:=λg=>by have:=(RX x).2 g;rw[this]at hc;simp at hc
 obtain⟨k1,k2,k3,k4⟩:=Vi hd;refine QHC 3 I<|JL (.cons _ (.cons _ .slnil)) mixed wm<|QL (QC I)<|QL (QC I)<|QL (WK (ahead Jx (JO x)) I I XC I O) ?_
 rw[k3];refine Qc I (λ_ _ f k=>Wk f (SH _) (by have:=Hn x.num;have:=Jc x;omega)) (λc19=>QL (QC I)<|QL (QC I)<|QL (Qm I I O)<|QL (Zy ((ahead Jx (JO x)+1)) I I XC wM O) ?_);rw[k4];refine Qc I (λ_ _ f k=>Wk f (CH _) (by have:=TZ x.den;have:=JZ x;omega)) (λc24=>Ji (vs:=[_,_]) I I I Q9 I .u1 (.cons _ .slnil) (λ_ h=>h.1.1) .h2 wT<|Ji (vs:=[_,_]) I I I Q9 I .here (.cons _ .slnil) (λ_ h=>h.1.1) .h2 wT<|Q3<|QD<|QT ?_);exact J9 ((c19,c24):Ri×Ri) rfl (.Jv (c:=[_,_]) I Q9 .u1 (.Jv (c:=[_,_]) I Q9 .here .nil)) (rfl) λF ⟨⟨⟨hT,_⟩,Ff⟩,h24⟩=>⟨by rw[ZS]at Ff;exact Ff,by rw[OW]at h24;exact h24⟩
structure QFQ(zx zy:Int) where
 n:Ri
 d:Ri
 zn:Int
 zd:Int
 h:0<zd
 e:Rat.divInt zn zd=Rat.divInt zx zy
 sn:sz zn<=500000
 sd:sz zd<=500000
theorem kj{n d:Int}(h:0<d){neg:Bool}{l p:List Int}(hn:V5 neg l n)(hp:dv B9 p=dv B9 l/(Int.gcd n d:Int)):BD neg p=(Rat.divInt n d).num:=by
 rw[(YJ h).1];have hg:(0:Int)<(Int.gcd n d:Int):=wk (VR (x:=n) h);obtain⟨k,hk⟩:=Int.gcd_dvd_left (a:=n) (b:=d);have e:=hn.e;have hv:=hn.v0;unfold BD at e ⊢;rw[hp];cases neg with
 |true =>
  simp only[if_true]at e ⊢;have e2:dv B9 l=(Int.gcd n d:Int)*(-k):=by rw[Int.mul_neg,<-hk];omega
  rw[e2,Int.mul_ediv_cancel_left _ O];have e3:n/(Int.gcd n d:Int)=k:=by
   conv=>lhs;lhs;rw[hk]
   exact Int.mul_ediv_cancel_left _ O
  rw[e3];omega
 |false =>
  simp only[Bool.false_eq_true,if_false]at e ⊢;rw[<-e]
def ko{n d:Int}(h:0<d){neg:Bool}{l p:List Int}(hn:V5 neg l d)(hp:dv B9 p=dv B9 l/(Int.gcd n d:Int)):dv B9 p=((Rat.divInt n d).den:Int):=by
 rw[(YJ h).2,hp];have:=hn.abs;congr 1;omega
def As{n:Int}{a b:Bool}{m:List Int}(hn:V5 a l n)(hd:V5 b m d):Int.gcd (dv B9 l) (dv B9 m)=Int.gcd n d:=by
 rw[<-hn.abs,<-hd.abs];simp[Int.gcd]
def FC(x y:Int):Rat.divInt (-x) (-y)=Rat.divInt x y:=Rat.neg_divInt_neg x y
theorem PI(h:DG B9 l)(hz:NZ l):(l.length=1/\Qd l 0=1)↔dv B9 l=1:=by
 constructor
 ·rintro⟨h1,h2⟩;obtain⟨x,rfl⟩:=List.length_eq_one_iff.1 h1;simp[Qd]at h2;simp[dv,h2]
 intro e;have:l=[1]:=xN Ff h (DG.cons wu wu (DG.nil _)) hz (by simp[NZ]) (by rw[e];simp[dv]);subst this;exact⟨rfl,rfl⟩
def LQ{x:Rat}(h:(x.den:Int)=1):XV x.num=JO x:=by unfold JO;rw[if_pos O]
theorem TI{x:Rat}(h:¬(x.den:Int)=1):XV x.num++[47]++XV (x.den:Int)=JO x:=by
 unfold JO;rw[if_neg O,Jh (z:=(x.den:Int)) O];simp
theorem Kn{x y:Ri}{zy:Int}(hF:Fits F w)(hx:KN F x zx)(hy:KN F y zy)(h0:zy≠0)(hzx:sz zx<=500000)(hzy:sz zy<=500000):Qb prog 65 [x.v,y.v] w F (tx (JO (Rat.divInt zx zy))):=by
 obtain⟨xn,⟨xq,xm,xc⟩,xl⟩:=x;have px:=hx.p;have lx:=px.len;have kx:=hx.1.2.1;have vx:=px.v0;dsimp only at px lx kx vx;obtain⟨yn,⟨yq,ym,yc⟩,yl⟩:=y;have py:=hy.p;have ly:=py.len;have ky:=hy.1.2.1;have vy:=py.v0;dsimp only at py ly ky vy;dsimp only[Ri.v];have hny:=py.neg;refine QU.intro (G:=λF=>KN F ⟨xn,⟨xq,xm,xc⟩,xl⟩ zx/\KN F ⟨yn,⟨yq,ym,yc⟩,yl⟩ zy) func65 rfl wy rfl rfl hF (λF' hF'=>⟨hx.le hF',hy.le hF'⟩)<|QGi<|JE rfl (vs:=[_,_]) rfl λb2=>JE rfl (vs:=[_,_]) rfl λb3=>QF6 rfl<|QE<|QD ?_
 refine Fb (ι:=QFQ zx zy) [(2,_),(3,_)] (λi=>[]) (λi=>[(b3,.cells [.bool i.d.neg,.slice i.d.r.q i.d.r.n i.d.r.cap].toArray 123 (0,0)),(b2,.cells [.bool i.n.neg,.slice i.n.r.q i.n.r.n i.n.r.cap].toArray 123 (0,0))]) (λi F=>KN F i.n i.zn/\KN F i.d i.zd) wT ?_ ?_
 ·refine QGi<|QA (QH I KC WA)<|QA (Qh I WA .here .h1)<|QE<|QD ?_
  refine QP I (λhc=>?_) λhc=>?_
  ·refine XN 4 QGJ mixed wm wm ?_;simp only[List.take_succ_cons,List.take_zero,List.drop_succ_cons,List.drop_zero];refine QL (wH I Q9 .u1)<|Qc I (λ_ _ f k=>Un f (x:=⟨xn,⟨xq,xm,xc⟩,xl⟩) k.1 O) λc14=>QL (wH I Q9 .here)<|Qc I (λ_ _ f k=>Un f (x:=⟨yn,⟨yq,ym,yc⟩,yl⟩) k.1.2 O) λc16=>KH<|QZ (vs:=[_,_]) I I I Q9 I .u1 .h2 wT<|QZ (vs:=[_,_]) I I I Q9 I .here .h2 wT<|QE ?_
   exact Xj (⟨c14,c16,-zx,-zy,by rw[hc]at hny;have:=QGx hny.symm;omega,FC _ _,by rw[K9];exact hzx,by rw[K9];exact hzy⟩) wT QGJ λF h9=>⟨⟨h9.1.1.1,h9.1.1.2⟩,⟨h9.1.2,h9.2⟩⟩
  refine QM ?_;exact Xj (⟨⟨xn,⟨xq,xm,xc⟩,xl⟩,⟨yn,⟨yq,ym,yc⟩,yl⟩,zx,zy,by rw[hc]at hny;have:=QGy hny.symm;omega,rfl,hzx,hzy⟩) wT QGJ λF ⟨hx,hy⟩=>⟨⟨hx,hy⟩,⟨hx,hy⟩⟩
 intro i;simp only[List.cons_append,List.nil_append];refine Xe _ (λ_ _ f h=>And.intro h.2.1.p (And.intro h.2.2.p (And.intro h.2.1.1.2.1 h.2.2.1.2.1))) (λpp=>?_);obtain⟨pn,pd,kn,kd⟩:=pp;have ln:=pn.len;have ld:=pd.len;have hsn:=i.sn;have hsd:=i.sd;have hi:=i.h;have gg:=As pn pd;have q1:=Vh (a:=i.zn) (b:=i.zd) O;have q2:=Jc (Rat.divInt i.zn i.zd);have q3:=JZ (Rat.divInt i.zn i.zd);have q4:sz (Rat.divInt i.zn i.zd).num<=500000:=O;have q5:sz ((Rat.divInt i.zn i.zd).den:Int)<=500000:=O;refine QGi<|QA (QH I XW Q5)<|QA (Qh I Q5 .u1 (.skip .h1))<|QA (QH I XW Q5)<|QA (Qh I Q5 .here (.skip .h1)) ?_
 refine QJ I (λ_ _ f k=>R9 f (a:=i.n.l) (b:=i.d.l) (ra:=i.n.r) (rb:=i.d.r) k.2.1.1 (k.2.2.1) (pn.dg) (pd.dg) (pn.nz) (pd.nz) O O) (λc21=>?_);rcases c21 with ⟨v21,l21⟩;dsimp only;refine JN _ (λw F hF ⟨⟨⟨hx,hy⟩,⟨hN,hD⟩⟩,⟨h21,h21p⟩⟩=>And.intro h21.2 h21p) (λp21=>wQ rfl<|QG ?_);have g0:0<dv B9 l21:=by rw[p21.2.2.2,gg];have:=VR (x:=i.zn) i.h;omega
 have l21l:l21.length<=i.d.l.length:=by
  refine Vs p21.2.1 pd.dg p21.2.2.1 ?_;rw[p21.2.2.2,gg];have h1:(Int.gcd i.zn i.zd:Int)<=i.zd:=Int.le_of_dvd i.h (Int.gcd_dvd_right (a:=i.zn) (b:=i.zd));have h2:=pd.abs;omega
 refine QB<|QA (QH rfl XW Q5)<|QA (Qh rfl Q5 .u1 (.skip .h1))<|QF5 rfl<|QJ rfl (λ_ _ f k=>GB f (a:=i.n.l) (b:=l21) (ra:=i.n.r) (rb:=v21) k.1.2.1.1 (k.2.1) (pn.dg) (p21.2.1) (pn.nz) (p21.2.2.1) (g0) O O) λc26=>QF5 rfl<|QA (QX rfl rfl)<|QA (QX rfl rfl)<|QF6 rfl<|wQ rfl<|QG<|Xe _ (λ_ _ f h=>And.intro h.2.1.2 h.2.1.1.2.1) λp26=>?_
 obtain⟨p26,n26⟩:=p26;refine QB<|QA (QH rfl XW Q5)<|QA (Qh rfl Q5 .here (.skip .h1))<|QF5 rfl<|QJ rfl (λ_ _ f k=>GB f (a:=i.d.l) (b:=l21) (ra:=i.d.r) (rb:=v21) k.1.1.2.2.1 (k.1.2.1) (pd.dg) (p21.2.1) (pd.nz) (p21.2.2.1) (g0) O O) λc33=>QF5 rfl<|QA (QX rfl rfl)<|QA (QX rfl rfl)<|QF6 rfl<|wQ rfl<|QG<|Xe _ (λ_ _ f h=>And.intro h.2.1.2 h.2.1.1.2.1) λp33=>?_
 obtain⟨p33,n33⟩:=p33;have en:BD i.n.neg c26.1.2=(Rat.divInt i.zn i.zd).num:=kj i.h pn (by rw[p26.2.2,p21.2.2.2,gg]);have ed:dv B9 c33.1.2=((Rat.divInt i.zn i.zd).den:Int):=ko i.h pd (by rw[p33.2.2,p21.2.2.2,gg]);have ed2:BD false c33.1.2=((Rat.divInt i.zn i.zd).den:Int):=by rw[<-ed];rfl
 have lnp:=Vs p26.1 pn.dg p26.2.1 (by rw[p26.2.2];exact Int.ediv_le_self _ pn.v0);have lnq:=Vs p33.1 pd.dg p33.2.1 (by rw[p33.2.2];exact Int.ediv_le_self _ pd.v0);have one1:=PI p33.1 p33.2.1;have lr1:=Hn (Rat.divInt i.zn i.zd).num;have lr2:=Hn ((Rat.divInt i.zn i.zd).den:Int);refine QB<|QA (QH I KC WA)<|QA (Qh I WA .u1 .h1)<|QF5 I<|QJ I (λ_ _ f k=>Zr f (r:=c26.1.1) (l:=c26.1.2) (neg:=i.n.neg) k.1.2.1.1 (p26.1) (by first | omega | (simp;omega))) λc39=>QJ I (λ_ _ f k=>TF f (zx:=(Rat.divInt i.zn i.zd).num) (by rw[<-en];exact k.2) O) λ_=>QHB 7 I<|QA (Qf I Qk)<|wB 2 I ?_
 refine Qe (t:=44) rfl (λhb44=>?_) λhb44=>?_
 ·have hn1:c33.1.1.n=1:=by simp at hb44;omega
  refine wB 3 I<|QA (Q2 (n:=c33.1.1.n) (0) (λF h9=>(h9.1.1.2.1.1).1) rfl wM Qk Qu O)<|QK I I<|QA (Qz (n:=c33.1.1.n) ((0)*1) (λF h9=>(h9.1.1.2.1.1).1) O I Qu (JH (o:=c33.1.2) O))<|QHB 5 I ?_
  refine QP I (λhc=>?_) λhc=>?_
  ·refine wA 7 I ?_;exact QHT I I (by rw[<-i.e];exact congrArg (λl=>tx l) (LQ (by rw[<-ed];exact one1.1 ⟨O,by simpa using hc⟩)).symm) w8
  refine QHC 5 I<|QA (Xd I I w6)<|QF5 I<|QJ I (λ_ _ f k=>Zr f (r:=c33.1.1) (l:=c33.1.2) (neg:=false) k.1.1.2.1.1 (p33.1) (by first | omega | (simp;omega))) λc54=>QJ I (λ_ _ f k=>TF f (zx:=((Rat.divInt i.zn i.zd).den:Int)) (by rw[<-ed2];exact k.2) O) λ_=>QA (Xd I I w6)<|wQ I<|QT ?_
  exact QHT I I (by rw[<-i.e];exact congrArg (λl=>tx l) (TI λg=>by have:=one1.2 (by rw[ed];exact g);rw[this.2]at hc;simp at hc).symm) w8
 have hn1:c33.1.1.n≠1:=by simp at hb44;omega
 refine QHB 7 I<|Xo I<|QHC 5 I<|QA (Xd I I w6)<|QF5 I<|QJ I (λ_ _ f k=>Zr f (r:=c33.1.1) (l:=c33.1.2) (neg:=false) k.1.1.2.1.1 (p33.1) (by first | omega | (simp;omega))) λc54=>QJ I (λ_ _ f k=>TF f (zx:=((Rat.divInt i.zn i.zd).den:Int)) (by rw[<-ed2];exact k.2) O) λ_=>QA (Xd I I w6)<|wQ I<|QT ?_
 exact QHT I I (by rw[<-i.e];exact congrArg (λl=>tx l) (TI λg=>by have:=one1.2 (by rw[ed];exact g);omega).symm) w8
def YN(x:Rat):Rat:=if x.num<0 then -x else x
def jD(x:Rat):(YN x).num=(x.num.natAbs:Int)/\(YN x).den=x.den:=by
 unfold YN;split
 ·exact⟨by rw[Rat.neg_num];omega,by rw[Rat.neg_den]⟩
 exact⟨O,rfl⟩
def Oj(h:z<0):XV z=45::XV (-z):=by
 rw[ZT h,Jh (z:=-z) O];congr 2;omega
def DS{x:Rat}(h:x.num<0):JO x=45::JO (-x):=by
 unfold JO;rw[Rat.neg_num,Rat.neg_den,Oj h];split<;>rfl
theorem WJ(x:Rat):Lib.hasPrefix (JO x) [45]=decide (x.num<0):=by
 by_cases h:x.num<0
 ·rw[DS h];simp[Lib.hasPrefix,List.isPrefixOf,h]
 have e:(decide (x.num<0))=false:=by simpa using h
 rw[e];unfold JO;rw[Jh O];have hd:=JR x.num.natAbs;split
 ·exact Yh hd
 have hne:=Yc x.num.natAbs;cases hl:Lib.decDigits x.num.natAbs with
 |nil=>exact absurd hl hne
 |cons c r =>
  have:=Yh hd;rw[hl]at this;simpa[Lib.hasPrefix,List.isPrefixOf]using this
def Us(x:Rat):Lib.trimPrefix (JO x) [45]=JO (YN x):=by
 unfold Lib.trimPrefix YN;rw[WJ];by_cases h:x.num<0
 ·rw[if_pos (by simpa using h),if_pos h,DS h];rfl
 rw[if_neg (by simpa using h),if_neg h]
def qT(x:Rat):Jn (YN x)=Jn x:=by
 unfold YN;split
 ·exact I9 x
 rfl
def vW(x:Rat)(c:Int×Int×Bool):Prop:=c.2.2=true->c.1=x.num/\c.2.1=(x.den:Int)/\x.num.natAbs<1000000000/\x.den<1000000000
def N6{l:List UInt8}(h:XT l=true)(hl:l.length<=9):JF l<1000000000:=by
 have h1:=VM h;have h2:10^l.length<=10^9:=Nat.pow_le_pow_right wu hl;omega
theorem DQ{x:Rat}(hF:Fits F w)(hl:Jn x<=100000):QU prog 63 [tx (JO x)] w F (λ(c:Int×Int×Bool)=>.tuple #[.int .i64 c.1,.int .i64 c.2.1,.bool c.2.2]) (λc _=>vW x c):=by
 have hlen:=GI x;have hlen2:=GI (YN x);rw[qT]at hlen2;obtain⟨an,ad⟩:=jD x;have hah:=KE Jx (JO (YN x));have anT:XV (YN x).num=Lib.decDigits x.num.natAbs:=by rw[an,Jh O];rfl
 refine QU.intro (G:=λF=>True) func63 rfl wy rfl rfl hF w8<|QGi<|QF6 rfl<|QF6 rfl<|wQ rfl<|wR rfl<|wQ rfl<|QG<|wR rfl<|QA (Js rfl XC)<|QA (QN rfl rfl rfl)<|QE<|QD ?_
 refine QP I (λhc=>?_) λhc=>?_
 ·refine wA 8 I ?_;exact J9 ((0,0,false):Int×Int×Bool) rfl (.tmp rfl (wO rfl rfl)) (rfl) λF hT=>λh=>by cases h
 refine QM<|QD ?_
 refine X8 [(5,_)] [(6,.bool (decide (x.num<0)))] wS ?_ ?_
 ·refine wA 2 I<|QA (Js I XC)<|wB 2 I ?_
  refine Qe (t:=17) rfl (λhb17=>?_) λhb17=>?_
  ·refine wB 3 I<|QA (Y5 (i:=0) rfl rfl XC (wk<|QGx hb17))<|wB 5 I ?_
   exact JB ⟨rfl,(congrArg (λb=>some (Value.bool b)) (by have h0:0<(JO x).length:=(wk<|QGx hb17);rw[<-WJ,Y7 h0];exact Gt I)),trivial⟩ QGJ w9
  refine wB 6 I ?_;exact JB ⟨rfl,(congrArg (λb=>some (Value.bool b)) (by have h0:(JO x).length=0:=(wk<|QGy hb17);rw[<-WJ,List.eq_nil_of_length_eq_zero h0];rfl)),trivial⟩ QGJ w9
 simp only[List.cons_append,List.nil_append];refine X8 [(6,_)] [(5,tx (JO (YN x)))] wS ?_ ?_
 ·refine wA 5 I ?_;refine QP I (λhc=>?_) λhc=>?_
  ·refine wA 2 I<|QA (Zy (1) rfl rfl XC I (by have:=Bh (s:=JO x) (by rw[WJ];exact hc);omega))<|wB 2 I ?_
   exact JB ⟨rfl,(congrArg (λl=>some (tx l)) (by rw[<-Us];unfold Lib.trimPrefix;rw[if_pos (by rw[WJ];exact hc)];rfl)),trivial⟩ QGJ w9
  refine QM ?_;exact JB ⟨rfl,(congrArg (λl=>some (tx l)) (by rw[<-Us];unfold Lib.trimPrefix;rw[WJ,hc];rfl)),trivial⟩ QGJ w9
 simp only[List.cons_append,List.nil_append];refine wR I<|QJ I (λ_ _ f k=>Wj f O) λ_=>QHB 9 I ?_
 refine Qe (t:=29) rfl (λhb29=>?_) λhb29=>?_
 ·refine QHB 8 I<|K6 I<|wA 8 I ?_
  exact J9 ((0,0,false):Int×Int×Bool) rfl (.tmp rfl (wO rfl rfl)) (rfl) λF h9=>λh=>by cases h
 refine wB 3 I<|QA (Js I XC)<|wB 3 I<|QA (J1 I I O)<|QHB 5 I ?_
 refine QP I (λhc=>?_) λhc=>?_
 ·refine wA 8 I ?_;exact J9 ((0,0,false):Int×Int×Bool) rfl (.tmp rfl (wO rfl rfl)) (rfl) λF h9=>λh=>by cases h
 have k9:ahead Jx (JO (YN x))<=9/\(JO (YN x)).length-ahead Jx (JO (YN x))<=10:=by
  have ha:=KE Jx (JO (YN x))
  first | (simp at hc hb29;omega) | (simp at hc;omega)
 have kt:(JO (YN x)).take (ahead Jx (JO (YN x)))=XV (YN x).num:=by
  by_cases hd:(YN x).den=1
  ·obtain⟨e1,e2⟩:=MY hd;rw[e2,List.take_length,e1]
  exact(Vi hd).2.2.1
 have kr:JF ((JO (YN x)).take (ahead Jx (JO (YN x))))=x.num.natAbs:=by rw[kt,anT,Jp]
 have hnum:x.num.natAbs<1000000000:=by
  have h1:=N6 (l:=XV (YN x).num) (by rw[anT];exact JR _) (by rw[<-kt,List.length_take];omega);rw[anT,Jp]at h1;exact h1
 have hdn:x.den<1000000000:=by
  rw[<-ad];by_cases hd:(YN x).den=1
  ·omega
  obtain⟨e1,e2,e3,e4⟩:=Vi hd;have h1:=N6 (l:=Lib.decDigits (YN x).den) (JR _) (by rw[<-e4,List.length_drop];omega);rw[Jp]at h1;exact h1
 refine QHC 6 I<|QA (WK (ahead Jx (JO (YN x))) I I XC I O)<|QJ I (λ_ _ f k=>DO f (by rw[kt,anT];exact JR _) (by rw[List.length_take];omega)) λ_=>?_
 rw[kr];refine QHB 4 I ?_;refine X8 [(6,_),(8,_)] [(9,.int .i64 (x.den:Int))] wT ?_ ?_
 ·refine wA 4 I<|QA (Js I XC)<|QHB 3 I ?_
  refine QP I (λhc=>?_) λhc=>?_
  ·have hlt:=QGx hc;have hd:¬(YN x).den=1:=λg=>by have:=(RX (YN x)).2 g;have:=QGx hc;omega
   have kd:=(Vi hd).2.2.2;have kd2:JF ((JO (YN x)).drop (ahead Jx (JO (YN x))+1))=x.den:=by rw[kd,Jp,ad]
   refine wA 3 I<|QA (Qm I I O)<|QA (Zy ((ahead Jx (JO (YN x))+1)) I I XC wM O)<|QJ I (λ_ _ f k=>DO f (by rw[kd];exact JR _) (by rw[List.length_drop];omega)) λ_=>?_
   rw[kd2];refine wB 2 I ?_;exact JB wU QGJ tA
  have hd:(YN x).den=1:=(RX (YN x)).1 (by have:=QGy hc;have:=KE Jx (JO (YN x));omega);refine QM ?_;exact JB ⟨rfl,rfl,(congrArg (λz:Int=>some (Value.int .i64 z)) (by rw[<-ad,hd];rfl)),trivial⟩ QGJ w9
 simp only[List.cons_append,List.nil_append];have hden:x.den<1000000000:=hdn;refine X8 [(9,_)] [(8,.int .i64 (x.num))] wS ?_ ?_
 ·refine wA 5 I ?_;refine QP I (λhc=>?_) λhc=>?_
  ·refine wA 2 I<|QA (J1 I I O)<|wB 2 I ?_
   exact JB ⟨rfl,(congrArg (λz:Int=>some (Value.int .i64 z)) (wk<|QGx hc)),trivial⟩ QGJ w9
  refine QM ?_;exact JB ⟨rfl,(congrArg (λz:Int=>some (Value.int .i64 z)) (wk<|QGy hc)),trivial⟩ QGJ w9
 simp only[List.cons_append,List.nil_append];refine wA 10 I ?_;exact J9 ((x.num,(x.den:Int),true):Int×Int×Bool) rfl (.tmp rfl (wO I I)) (rfl) λF h9=>λ_=>⟨rfl,rfl,hnum,hden⟩
section
variable{P:Program}{N:Nat}{m:Sl}{S:World->Prop}{ty:TypeId}
def pY{T:TypeId}{a b:Int}(hx:ev m x=some (.int .i64 a))(hy:ev m y=some (.int .i64 b))(h:0<b)(h0 : -9223372036854775807<=a)(h1:a<=9223372036854775807):Qt P N m S (.binOp .quo T x y yT) ty (.int .i64 (a.tdiv b)):=by
 have:=LS (P:=P) (N:=N) (m:=m) (S:=S) (ty:=ty) (T:=T) (yT:=yT) hx hy O;have e:=Int.natAbs_tdiv a b;have e2:a.natAbs.div b.natAbs<=a.natAbs:=Nat.div_le_self _ _;rw[IntWalk.i64_in _ O]at this;exact this
end
theorem yi{x y:Int}(hF:Fits F w)(h0:0<=x)(h1:x<=9223372036854775807)(k0:0<=y)(k1:y<=9223372036854775807):Qb prog 99 [.int .i64 x,.int .i64 y] w F (.int .i64 (Nat.gcd x.toNat y.toNat:Nat)):=by
 have:=pS (a:=x.toNat) (b:=y.toNat) hF O O;rw[Int.toNat_of_nonneg h0,Int.toNat_of_nonneg k0]at this;exact this
def jm(z:Int):(if 0-z>z then 0-z else z)=((z.natAbs:Nat):Int):=by split<;>omega
def FG(n:Nat):EY n 1=Lib.decDigits n:=by
 rcases Nat.eq_zero_or_pos n with h | h
 ·subst h;unfold EY hd;rw[if_pos rfl,X7];rfl
 exact P2 h
theorem jf{n:Int}{d:Nat}(h:0<d):n.tdiv ((Nat.gcd n.natAbs d:Nat):Int)=(Rat.divInt n d).num:=by
 rw[(YJ (x:=n) (y:=(d:Int)) O).1];have e:(Nat.gcd n.natAbs d:Nat)=Int.gcd n (d:Int):=by simp[Int.gcd]
 rw[e];exact Int.tdiv_eq_ediv_of_dvd (Int.gcd_dvd_left (a:=n) (b:=(d:Int)))
theorem jg{n:Int}{d:Nat}(h:0<d):(d:Int)/((Nat.gcd n.natAbs d:Nat):Int)=((Rat.divInt n d).den:Int):=by
 rw[(YJ (x:=n) (y:=(d:Int)) O).2];have e:(Nat.gcd n.natAbs d:Nat)=Int.gcd n (d:Int):=by simp[Int.gcd]
 rw[e]
theorem y8(n:Int){d:Int}(h:d≠0):Rat.divInt (if d<0 then 0-n else n) (d.natAbs:Int)=Rat.divInt n d:=by
 split
 ·rename_i g;rw[show((d.natAbs:Nat):Int) = -d by omega,Int.zero_sub];exact Rat.neg_divInt_neg n d
 rw[show((d.natAbs:Nat):Int)=d by omega]
def jh{n:Int}{d:Nat}(h:0<d)(hn:n.natAbs<=4000000000000000000)(hd:d<=4000000000000000000):(Rat.divInt n d).num.natAbs<=4000000000000000000/\(Rat.divInt n d).den<=4000000000000000000/\0<(Rat.divInt n d).den:=by
 have e1:=jf (n:=n) h;have e2:=jg (n:=n) h;have k1:=Int.natAbs_tdiv n ((Nat.gcd n.natAbs d:Nat):Int);have k2:n.natAbs.div ((Nat.gcd n.natAbs d:Nat):Int).natAbs<=n.natAbs:=Nat.div_le_self _ _;have k3:(d:Int)/((Nat.gcd n.natAbs d:Nat):Int)<=(d:Int):=Int.ediv_le_self _ O;have k4:=(Rat.divInt n d).den_pos;rw[e1]at k1;omega
def AA(z:Int):(if z<0 then[45]else[])++Lib.decDigits z.natAbs=XV z:=by
 split
 ·rename_i h;rw[ZT h];rfl
 rw[Jh O];rfl
def yN(h : -9223372036854775808<=z/\z<=9223372036854775807):sz z<=64:=by
 rw[XF];omega
theorem gJ{num den:Int}(hF:Fits F w)(hn : -9223372036854775808<=num/\num<=9223372036854775807)(hd : -9223372036854775808<=den/\den<=9223372036854775807)(h0:den≠0):Qb prog 25 [.int .i64 num,.int .i64 den] w F (tx (JO (Rat.divInt num den))):=by
 refine QU.intro (G:=λF=>True) func25 rfl wy rfl rfl hF w8<|QGi<|wQ rfl<|QG ?_
 refine X8 [(0,_),(1,_)] [(20,.bool (decide (num < -4000000000000000000\/num>4000000000000000000\/den < -4000000000000000000\/den>4000000000000000000)))] wT ?_ ?_
 ·refine wA 4 I ?_;refine Qe (t:=9) rfl (λhb9=>?_) λhb9=>?_
  ·refine wB 12 I ?_;exact JB ⟨rfl,rfl,(congrArg (λb=>some (Value.bool b)) (by rw[Bool.eq_iff_iff];simp_all;try omega)),trivial⟩ QGJ w9
  refine wB 6 I ?_;refine Qe (t:=13) rfl (λhb13=>?_) λhb13=>?_
  ·refine wB 8 I ?_;exact JB ⟨rfl,rfl,(congrArg (λb=>some (Value.bool b)) (by rw[Bool.eq_iff_iff];simp_all;try omega)),trivial⟩ QGJ w9
  refine wB 6 I ?_;refine Qe (t:=17) rfl (λhb17=>?_) λhb17=>?_
  ·refine wB 4 I ?_;exact JB ⟨rfl,rfl,(congrArg (λb=>some (Value.bool b)) (by rw[Bool.eq_iff_iff];simp_all;try omega)),trivial⟩ QGJ w9
  refine wB 6 I ?_;exact JB ⟨rfl,rfl,(congrArg (λb=>some (Value.bool b)) (by rw[Bool.eq_iff_iff];simp_all;try omega)),trivial⟩ QGJ w9
 simp only[List.cons_append,List.nil_append];refine QP I (λhc=>?_) λhc=>?_
 ·refine wR I<|QJ I (λ_ _ f k=>Hj f O) λc22=>QF5 I<|QJ I (λ_ _ f k=>Hj f O) λc24=>QJ I (λ_ _ f k=>Kn f (k.1.2) (k.2) (h0) (wk<|yN hn) (wk<|yN hd)) λ_=>wQ I<|QT ?_
  exact QHT I I (rfl) w8
 have hb:¬(num < -4000000000000000000\/num>4000000000000000000\/den < -4000000000000000000\/den>4000000000000000000):=QGy hc;refine QM<|QD ?_
 refine X8 [] [(0,.int .i64 (if den<0 then 0-num else num)),(1,.int .i64 ((den.natAbs:Nat):Int))] trivial ?_ ?_
 ·refine wA 6 I ?_;refine QP I (λhc=>?_) λhc=>?_
  ·refine wA 2 I<|QA (J1 I I O)<|QF5 I<|QA (J1 I I O)<|wB 3 I ?_
   exact JB ⟨(congrArg (λz:Int=>some (Value.int .i64 z)) (if_pos (QGx hc)).symm),(congrArg (λz:Int=>some (Value.int .i64 z)) (wk<|QGx hc)),trivial⟩ QGJ w9
  refine QM ?_;exact JB ⟨(congrArg (λz:Int=>some (Value.int .i64 z)) (if_neg (QGy hc)).symm),(congrArg (λz:Int=>some (Value.int .i64 z)) (wk<|QGy hc)),trivial⟩ QGJ w9
 simp only[List.cons_append,List.nil_append];have hq:=y8 num h0;have b1:(if den<0 then 0-num else num).natAbs<=4000000000000000000:=by split<;>omega
 generalize (if den<0 then 0-num else num)=n1 at *
 obtain⟨c1,c2,c3⟩:=jh (n:=n1) (d:=den.natAbs) O b1 O;have hg:0<Nat.gcd n1.natAbs den.natAbs:=Nat.gcd_pos_of_pos_right _ O;have lr1:=Hn (Rat.divInt n1 (den.natAbs:Int)).num;have lr2:=TZ (Rat.divInt n1 (den.natAbs:Int)).den;have lz1:=yN (z:=(Rat.divInt n1 (den.natAbs:Int)).num) O;have lz2:=yN (z:=((Rat.divInt n1 (den.natAbs:Int)).den:Int)) O;have e1:=jf (n:=n1) (d:=den.natAbs) O;have e2:=jg (n:=n1) (d:=den.natAbs) O;refine wA 4 I<|QA (J1 I I O)<|QA (gN I I) ?_
 rw[jm];refine QF5 I<|QJ I (λ_ _ f k=>yi f O O O O) λ_=>wQ I<|QG<|JL QGJ mixed wm ?_
 simp only[Int.toNat_natCast];refine QL (QC I)<|QL (QC I)<|QL (pY I I O O O) ?_
 rw[e1];refine QL (QC I)<|QL (QC I)<|QL (Wc I I O O O) ?_
 rw[e2];refine QL (QF I)<|QL (QF I)<|Q3<|QHD 6 I ?_
 refine X8 [(0,_),(1,_)] [(6,tx (if(Rat.divInt n1 (den.natAbs:Int)).num<0 then[45]else[]))] wT ?_ ?_
 ·refine wA 6 I ?_;refine QP I (λhc=>?_) λhc=>?_
  ·refine wA 3 I ?_;exact JB ⟨rfl,rfl,(congrArg (λl=>some (tx l)) (if_pos (QGx hc)).symm),trivial⟩ QGJ w9
  refine QM ?_;exact JB ⟨rfl,rfl,(congrArg (λl=>some (tx l)) (if_neg (QGy hc)).symm),trivial⟩ QGJ w9
 simp only[List.cons_append,List.nil_append];refine wA 5 I<|QA (J1 I I O)<|QA (gN I I) ?_
 rw[jm];refine QJ I (λ_ _ f k=>WI f (least:=1) O O O) (λ_=>?_);simp only[Int.toNat_natCast,FG];refine QA (Xd I I (by have e:=congrArg List.length (AA (Rat.divInt n1 (den.natAbs:Int)).num);rw[List.length_append]at e;omega))<|QHB 6 I ?_
 rw[AA];refine QHB 4 I ?_;refine QP I (λhc=>?_) λhc=>?_
 ·have hd1:¬((Rat.divInt n1 (den.natAbs:Int)).den:Int)=1:=wk<|QGx hc
  refine wA 2 I<|QA (Xd I I (by simp only[List.length_append,List.length_cons,List.length_nil];omega))<|QF5 I<|QJ I (λ_ _ f k=>WI f (least:=1) O O O) λ_=>?_
  simp only[Int.toNat_natCast,FG];refine QA (Xd I I (by simp only[List.length_append,List.length_cons,List.length_nil];omega))<|QHB 10 I ?_
  exact QHT I I (by rw[<-hq];exact congrArg (λl=>tx l) (by rw[<-TI hd1,AD])) w8
 have hd1:((Rat.divInt n1 (den.natAbs:Int)).den:Int)=1:=wk<|QGy hc
 refine QHC 9 I ?_;exact QHT I I (by rw[<-hq];exact congrArg (λl=>tx l) (LQ hd1).symm) w8
def Ey:JO 0=[48]:=by
 have h:(0:Rat).num=0:=rfl;unfold JO;rw[if_pos wy,h,Jh wu];exact X7
def AB(x:Rat):x.num<0↔x<0:=by rw[<-Rat.not_le,<-Rat.num_nonneg];omega
theorem Le(x:Rat):IL (JO x)=JO (-x):=by
 unfold IL GR;rw[WJ];by_cases h0:JO x=[48]
 ·rw[if_pos h0];have hx:x=0:=by
   have hv:=ZS x.num;by_cases hd:x.den=1
   ·rw[(MY hd).1]at h0;rw[h0]at hv;have:x.num=0:=by rw[<-hv];rfl
    exact Rat.num_eq_zero.1 this
   have:=(Vi hd).2.2.1;have h1:=(Vi hd).2.1;rw[h0]at h1;have h2:=(Vi hd).1;have h3:0<(XV x.num).length:=by
    rcases Nat.eq_zero_or_pos (XV x.num).length with g | g
    ·have e:=List.eq_nil_of_length_eq_zero g;unfold XV at e;rcases Int.lt_or_le x.num 0 with q | q
     ·have:=ZT q;unfold XV at this;rw[this]at e;cases e
     have:=Jh q;unfold XV at this;rw[this]at e;exact absurd e (Yc _)
    exact g
   rw[h0]at h2;simp at h1;omega
  subst hx;have e:(-0:Rat)=0:=wu;rw[e,if_neg wu,if_pos rfl]
 rw[if_neg h0];by_cases hn:x.num<0
 ·rw[if_pos (show(decide (x.num<0))=true by simpa using hn),if_pos wu,DS hn];rfl
 rw[if_neg (show ¬(decide (x.num<0))=true by simpa using hn),if_neg wu,if_neg wu];have h1:(-x).num<0:=by
  rw[Rat.neg_num];have:x.num≠0:=by
   intro e;have:=Rat.num_eq_zero.1 e;subst this;exact h0 Ey
  omega
 have:=DS h1;rw[Rat.neg_neg]at this;exact this.symm
theorem Uc(x:Rat):GR (JO x)=EF x.num:=by
 unfold GR;rw[WJ];by_cases h0:x=0
 ·subst h0;rw[if_pos Ey];rfl
 have hn:x.num≠0:=λe=>h0 (Rat.num_eq_zero.1 e);have h1:JO x≠[48]:=by
  intro e;have h2:=Le x;unfold IL GR at h2;rw[if_pos e,if_neg wu,if_pos rfl,e]at h2;by_cases hd:x.den=1
  ·have hv:=ZS x.num;rw[<-(MY hd).1,e]at hv;exact hn hv.symm
  have:=(Vi hd).2.2.1;have hv:=ZS x.num;rw[<-this,e]at hv;have h3:=(Vi hd).2.1;rw[e]at h3;have h4:ahead Jx [48]=1:=wu;rw[h4]at h3;exact absurd h3 wu
 rw[if_neg h1];unfold EF;by_cases g:x.num<0
 ·rw[if_pos (show(decide (x.num<0))=true by simpa using g),if_pos g]
 rw[if_neg (show ¬(decide (x.num<0))=true by simpa using g),if_neg g,if_neg hn]
theorem TA(x:Rat):EF x.num=if x<0 then -1 else if x=0 then 0 else 1:=by
 unfold EF;by_cases h:x<0
 ·rw[if_pos h,if_pos ((AB x).2 h)]
 rw[if_neg h,if_neg (λg=>h ((AB x).1 g))];by_cases h0:x=0
 ·rw[if_pos h0,if_pos (Rat.num_eq_zero.2 h0)]
 rw[if_neg h0,if_neg (λg=>h0 (Rat.num_eq_zero.1 g))]
theorem vH(x y:Rat):EF (x-y).num=Wx x y:=by
 rw[TA];unfold Wx;have h1:(x-y<0)↔x<y:=by grind
 have h2:(x-y=0)↔x=y:=by grind
 simp only[h1,h2]
def kY(n:Int):JO (n:Rat)=XV n:=by unfold JO;rw[if_pos wz];simp
theorem yk{x y:Rat}(hF:Fits F w)(hx:Jn x<=100000)(hy:Jn y<=100000):Qb prog 15 [tx (JO x),tx (JO y)] w F (tx (JO (x+y))):=by
 refine QU.intro (G:=λF=>True) func15 rfl wy rfl rfl hF w8<|QGi<|wQ rfl<|wR rfl<|QJ rfl (λ_ _ f k=>DQ f (hx)) λc17=>JN _ (λ_ _ f k=>k.2) λp17=>QF5 rfl<|QA (QX rfl rfl)<|QA (QX rfl rfl)<|QA (QX rfl rfl)<|QF6 rfl<|QF6 rfl<|wQ rfl<|wR rfl<|QJ rfl (λ_ _ f k=>DQ f (hy)) λc23=>JN _ (λ_ _ f k=>k.2) λp23=>?_
 refine QHB 14 I ?_;refine Qe (t:=28) rfl (λhb28=>?_) λhb28=>?_
 ·refine QHB 5 I ?_;refine QP I (λhc=>?_) λhc=>?_
  ·refine QG ?_;obtain⟨a1,a2,a3,a4⟩:=p17 hb28;obtain⟨b1,b2,b3,b4⟩:=p23 hc;have xd:=x.den_pos;have yd:=y.den_pos;have e1:(x.num*y.den).natAbs<1000000000*1000000000:=by rw[Int.natAbs_mul];exact Nat.mul_lt_mul_of_lt_of_lt a3 O
   have e2:(y.num*x.den).natAbs<1000000000*1000000000:=by rw[Int.natAbs_mul];exact Nat.mul_lt_mul_of_lt_of_lt b3 O
   have e3:(x.num*y.num).natAbs<1000000000*1000000000:=by rw[Int.natAbs_mul];exact Nat.mul_lt_mul_of_lt_of_lt a3 b3
   have e4:((x.den:Int)*y.den).natAbs<1000000000*1000000000:=by rw[Int.natAbs_mul];exact Nat.mul_lt_mul_of_lt_of_lt O O
   have e5:(x.den:Int)*y.den≠0:=by have h1:=ZX x;have h2:=ZX y;exact Int.mul_ne_zero h1 h2
   rw[a1,a2,b1,b2];refine wA 3 I<|QA (Vm I I O)<|wB 2 I<|QA (Vm I I O)<|QA (Qm I I O)<|wB 2 I<|QA (Vm I I O)<|QJ I (λ_ _ f k=>gJ f O O (e5)) λ_=>wQ I<|QT ?_
   exact QHT I I (by rw[V0]) w8
  refine QHC 3 I ?_;have s1:=Jc x;have s2:=JZ x;have s3:=Jc y;have s4:=JZ y;have m1:=ZQ x.num y.den;have m2:=ZQ y.num x.den;have m3:=ZQ (x.den:Int) y.den;have m4:=ZQ x.num y.num;have m5:=Nv (x.num*y.den) (y.num*x.den);have e5:(x.den:Int)*y.den≠0:=Int.mul_ne_zero (ZX x) (ZX y);refine wA 2 I<|QJ I (λ_ _ f k=>Km f (hx)) λc44=>wB 3 I<|Qg ZB λb11=>Qg ZB λb12=>QZ (vs:=[_,_]) I I I Q9 I .u1 .h2 wT<|QZ (vs:=[_,_]) I I I Q9 I .here .h2 wT<|QHB 5 I<|QJ I (λ_ _ f k=>Km f (hy)) λc49=>wB 3 I<|Qg ZB λb13=>Qg ZB λb14=>QZ (vs:=[_,_]) I I I Q9 I .u1 .h2 wT<|QZ (vs:=[_,_]) I I I Q9 I .here .h2 wT<|QE<|QD ?_
  refine QG<|JL QGJ mixed wm<|QL (wH I Q9 .u3)<|QL (wH I Q9 .here)<|Qc I (λ_ _ f k=>YS f (k.1.2.1) (k.2.2) O O) λc54=>QL (wH I Q9 .u1)<|QL (wH I Q9 .u2)<|Qc I (λ_ _ f k=>YS f (k.1.2.1) (k.1.1.2.2) O O) λc57=>Qc I (λ_ _ f k=>LM f (k.1.2) (k.2) O O) λc58=>QL (wH I Q9 .u2)<|QL (wH I Q9 .here)<|Qc I (λ_ _ f k=>YS f (k.1.1.1.1.2.2) (k.1.1.1.2.2) O O) λc61=>Qc I (λ_ _ f k=>Kn f (k.1.2) (k.2) (e5) O O) λ_=>QL (QF I)<|Q3<|QD<|QT ?_
  exact QHT I I (by rw[V0]) w8
 refine QHB 4 I<|Xo I<|QHC 3 I ?_
 have s1:=Jc x;have s2:=JZ x;have s3:=Jc y;have s4:=JZ y;have m1:=ZQ x.num y.den;have m2:=ZQ y.num x.den;have m3:=ZQ (x.den:Int) y.den;have m4:=ZQ x.num y.num;have m5:=Nv (x.num*y.den) (y.num*x.den);have e5:(x.den:Int)*y.den≠0:=Int.mul_ne_zero (ZX x) (ZX y);refine wA 2 I<|QJ I (λ_ _ f k=>Km f (hx)) λc44=>wB 3 I<|Qg ZB λb11=>Qg ZB λb12=>QZ (vs:=[_,_]) I I I Q9 I .u1 .h2 wT<|QZ (vs:=[_,_]) I I I Q9 I .here .h2 wT<|QHB 5 I<|QJ I (λ_ _ f k=>Km f (hy)) λc49=>wB 3 I<|Qg ZB λb13=>Qg ZB λb14=>QZ (vs:=[_,_]) I I I Q9 I .u1 .h2 wT<|QZ (vs:=[_,_]) I I I Q9 I .here .h2 wT<|QE<|QD ?_
 refine QG<|JL QGJ mixed wm<|QL (wH I Q9 .u3)<|QL (wH I Q9 .here)<|Qc I (λ_ _ f k=>YS f (k.1.2.1) (k.2.2) O O) λc54=>QL (wH I Q9 .u1)<|QL (wH I Q9 .u2)<|Qc I (λ_ _ f k=>YS f (k.1.2.1) (k.1.1.2.2) O O) λc57=>Qc I (λ_ _ f k=>LM f (k.1.2) (k.2) O O) λc58=>QL (wH I Q9 .u2)<|QL (wH I Q9 .here)<|Qc I (λ_ _ f k=>YS f (k.1.1.1.1.2.2) (k.1.1.1.2.2) O O) λc61=>Qc I (λ_ _ f k=>Kn f (k.1.2) (k.2) (e5) O O) λ_=>QL (QF I)<|Q3<|QD<|QT ?_
 exact QHT I I (by rw[V0]) w8
theorem QBB{x y:Rat}(hF:Fits F w)(hx:Jn x<=100000)(hy:Jn y<=100000):Qb prog 16 [tx (JO x),tx (JO y)] w F (tx (JO (x*y))):=by
 refine QU.intro (G:=λF=>True) func16 rfl wy rfl rfl hF w8<|QGi<|wQ rfl<|wR rfl<|QJ rfl (λ_ _ f k=>DQ f (hx)) λc17=>JN _ (λ_ _ f k=>k.2) λp17=>QF5 rfl<|QA (QX rfl rfl)<|QA (QX rfl rfl)<|QA (QX rfl rfl)<|QF6 rfl<|QF6 rfl<|wQ rfl<|wR rfl<|QJ rfl (λ_ _ f k=>DQ f (hy)) λc23=>JN _ (λ_ _ f k=>k.2) λp23=>?_
 refine QHB 14 I ?_;refine Qe (t:=28) rfl (λhb28=>?_) λhb28=>?_
 ·refine QHB 5 I ?_;refine QP I (λhc=>?_) λhc=>?_
  ·refine QG ?_;obtain⟨a1,a2,a3,a4⟩:=p17 hb28;obtain⟨b1,b2,b3,b4⟩:=p23 hc;have xd:=x.den_pos;have yd:=y.den_pos;have e1:(x.num*y.den).natAbs<1000000000*1000000000:=by rw[Int.natAbs_mul];exact Nat.mul_lt_mul_of_lt_of_lt a3 O
   have e2:(y.num*x.den).natAbs<1000000000*1000000000:=by rw[Int.natAbs_mul];exact Nat.mul_lt_mul_of_lt_of_lt b3 O
   have e3:(x.num*y.num).natAbs<1000000000*1000000000:=by rw[Int.natAbs_mul];exact Nat.mul_lt_mul_of_lt_of_lt a3 b3
   have e4:((x.den:Int)*y.den).natAbs<1000000000*1000000000:=by rw[Int.natAbs_mul];exact Nat.mul_lt_mul_of_lt_of_lt O O
   have e5:(x.den:Int)*y.den≠0:=by have h1:=ZX x;have h2:=ZX y;exact Int.mul_ne_zero h1 h2
   rw[a1,a2,b1,b2];refine wA 3 I<|QA (Vm I I O)<|wB 2 I<|QA (Vm I I O)<|QJ I (λ_ _ f k=>gJ f O O (e5)) λ_=>wQ I<|QT ?_
   exact QHT I I (by rw[Vq]) w8
  refine QHC 3 I ?_;have s1:=Jc x;have s2:=JZ x;have s3:=Jc y;have s4:=JZ y;have m1:=ZQ x.num y.den;have m2:=ZQ y.num x.den;have m3:=ZQ (x.den:Int) y.den;have m4:=ZQ x.num y.num;have m5:=Nv (x.num*y.den) (y.num*x.den);have e5:(x.den:Int)*y.den≠0:=Int.mul_ne_zero (ZX x) (ZX y);refine wA 2 I<|QJ I (λ_ _ f k=>Km f (hx)) λc40=>wB 3 I<|Qg ZB λb11=>Qg ZB λb12=>QZ (vs:=[_,_]) I I I Q9 I .u1 .h2 wT<|QZ (vs:=[_,_]) I I I Q9 I .here .h2 wT<|QHB 5 I<|QJ I (λ_ _ f k=>Km f (hy)) λc45=>wB 3 I<|Qg ZB λb13=>Qg ZB λb14=>QZ (vs:=[_,_]) I I I Q9 I .u1 .h2 wT<|QZ (vs:=[_,_]) I I I Q9 I .here .h2 wT<|QE<|QD ?_
  refine QG<|JL QGJ mixed wm<|QL (wH I Q9 .u3)<|QL (wH I Q9 .u1)<|Qc I (λ_ _ f k=>YS f (k.1.2.1) (k.2.1) O O) λc50=>QL (wH I Q9 .u2)<|QL (wH I Q9 .here)<|Qc I (λ_ _ f k=>YS f (k.1.1.2.2) (k.1.2.2) O O) λc53=>Qc I (λ_ _ f k=>Kn f (k.1.2) (k.2) (e5) O O) λ_=>QL (QF I)<|Q3<|QD<|QT ?_
  exact QHT I I (by rw[Vq]) w8
 refine QHB 4 I<|Xo I<|QHC 3 I ?_
 have s1:=Jc x;have s2:=JZ x;have s3:=Jc y;have s4:=JZ y;have m1:=ZQ x.num y.den;have m2:=ZQ y.num x.den;have m3:=ZQ (x.den:Int) y.den;have m4:=ZQ x.num y.num;have m5:=Nv (x.num*y.den) (y.num*x.den);have e5:(x.den:Int)*y.den≠0:=Int.mul_ne_zero (ZX x) (ZX y);refine wA 2 I<|QJ I (λ_ _ f k=>Km f (hx)) λc40=>wB 3 I<|Qg ZB λb11=>Qg ZB λb12=>QZ (vs:=[_,_]) I I I Q9 I .u1 .h2 wT<|QZ (vs:=[_,_]) I I I Q9 I .here .h2 wT<|QHB 5 I<|QJ I (λ_ _ f k=>Km f (hy)) λc45=>wB 3 I<|Qg ZB λb13=>Qg ZB λb14=>QZ (vs:=[_,_]) I I I Q9 I .u1 .h2 wT<|QZ (vs:=[_,_]) I I I Q9 I .here .h2 wT<|QE<|QD ?_
 refine QG<|JL QGJ mixed wm<|QL (wH I Q9 .u3)<|QL (wH I Q9 .u1)<|Qc I (λ_ _ f k=>YS f (k.1.2.1) (k.2.1) O O) λc50=>QL (wH I Q9 .u2)<|QL (wH I Q9 .here)<|Qc I (λ_ _ f k=>YS f (k.1.1.2.2) (k.1.2.2) O O) λc53=>Qc I (λ_ _ f k=>Kn f (k.1.2) (k.2) (e5) O O) λ_=>QL (QF I)<|Q3<|QD<|QT ?_
 exact QHT I I (by rw[Vq]) w8
theorem pP{x y:Rat}(hF:Fits F w)(hx:Jn x<=100000)(hy:Jn y<=100000):Qb prog 27 [tx (JO x),tx (JO y)] w F (tx (JO (x-y))):=by
 have hly:=GI y;refine QU.intro (G:=λF=>True) func27 rfl wy rfl rfl hF w8<|QGi<|wQ rfl<|wR rfl<|QF5 rfl<|QJ rfl (λ_ _ f k=>pQ f O) λ_=>?_
 rw[Le];refine QJ I (λ_ _ f k=>yk f (hx) (by rw[I9];exact hy)) (λ_=>wQ I<|QT ?_);exact QHT I I (by rw[Rat.sub_eq_add_neg]) w8
theorem pU{x y:Rat}(hF:Fits F w)(hx:Jn x<=100000)(hy:Jn y<=100000):Qb prog 112 [tx (JO x),tx (JO y)] w F (.int .i64 (Wx x y)):=by
 refine QU.intro (G:=λF=>True) func112 rfl wy rfl rfl hF w8<|QGi<|wQ rfl<|wR rfl<|QF5 rfl<|QJ rfl (λ_ _ f k=>pP f O O) λ_=>QJ rfl (λ_ _ f k=>Ms f ) λ_=>wQ rfl<|QT ?_
 exact QHT I I (by rw[Uc,vH]) w8
theorem OU(hF:Fits F w)(hl:s.length<=1000000)(h1:XT (Lib.trimPrefix (s.take (ahead Jx s)) [45])=true)(h2:ahead Jx s<s.length->XT (Lib.trimPrefix (s.drop (ahead Jx s+1)) [45])=true):QU prog 64 [tx s] w F Ri.v2 (λc F=>KN F c.1 (Zx (s.take (ahead Jx s)))/\(ahead Jx s<s.length->KN F c.2 (Zx (s.drop (ahead Jx s+1))))):=by
 have hah:=KE Jx s;refine QU.intro (G:=λF=>True) func64 rfl wy rfl rfl hF w8<|QGi<|Qg ZB λb2=>Qg ZB λb3=>QF4<|wR rfl<|wQ rfl<|wR rfl<|QJ rfl (λ_ _ f k=>Wj f O) λ_=>wQ rfl<|QG<|wR rfl<|QF5 rfl ?_
 refine QA (Js I XC)<|QHB 3 I ?_
 refine QP I (λhc=>?_) λhc=>?_
 ·have hd:ahead Jx s=s.length:=by have:(ahead Jx s:Int)=(s.length:Int):=(by simpa using hc);omega
  refine wR I<|QJ I (λ_ _ f k=>Wk f (by rw[hd,List.take_length]at h1;exact h1) O) λc14=>QJ I (λ_ _ f k=>Hj f wu) λc15=>QZ (vs:=[_,_]) I I I Q9 I .u1 .h2 wT<|QZ (vs:=[_,_]) I I I Q9 I .here .h2 wT<|QF4<|QT ?_
  exact J9 ((c14,c15):Ri×Ri) rfl (.Jv (c:=[_,_]) I Q9 .u1 (.Jv (c:=[_,_]) I Q9 .here .nil)) (rfl) λF h9=>⟨by rw[hd,List.take_length];exact h9.1.2,λg=>O⟩
 have hd:ahead Jx s<s.length:=by rcases Nat.lt_or_ge (ahead Jx s) s.length with g | g;exact g;exact absurd (show ahead Jx s=s.length by omega) λe=>by rw[e]at hc;simp at hc
 refine QHC 3 I<|JL (.cons _ (.cons _ .slnil)) mixed wm<|QL (QC I)<|QL (QC I)<|QL (WK (ahead Jx s) rfl rfl XC I O)<|Qc I (λ_ _ f k=>Wk f (h1) (by rw[List.length_take];omega)) λc19=>QL (QC I)<|QL (QC I)<|QL (Qm I I O)<|QL (Zy ((ahead Jx s+1)) I I XC wM O)<|Qc I (λ_ _ f k=>Wk f (h2 hd) (by rw[List.length_drop];omega)) λc24=>Ji (vs:=[_,_]) I I I Q9 I .u1 (.cons _ .slnil) (λ_ h=>h.1.1) .h2 wT<|Ji (vs:=[_,_]) I I I Q9 I .here (.cons _ .slnil) (λ_ h=>h.1.1) .h2 wT<|Q3<|QD<|QT ?_
 exact J9 ((c19,c24):Ri×Ri) rfl (.Jv (c:=[_,_]) I Q9 .u1 (.Jv (c:=[_,_]) I Q9 .here .nil)) (rfl) λF h9=>⟨h9.1.2,λ_=>h9.2⟩
def Rj(s:List UInt8):Bool:=!J7 ((Lib.trimPrefix s [45]).take (ahead Jx (Lib.trimPrefix s [45])))||(Lib.hasPrefix s [45]&&(Lib.trimPrefix s [45]).take (ahead Jx (Lib.trimPrefix s [45]))==[48])
def Ge(s:List UInt8):List UInt8:=(Lib.trimPrefix s [45]).drop (ahead Jx (Lib.trimPrefix s [45])+1)
def Gx(s:List UInt8):Bool:=decide (ahead Jx (Lib.trimPrefix s [45])<(Lib.trimPrefix s [45]).length)
def P7(s:List UInt8):Bool:=Gx s&&(!J7 (Ge s)||(Ge s==[48]||Ge s==[49]))
def Rf(s:List UInt8):Bool:=decide (600<ahead Jx (Lib.trimPrefix s [45]))||decide (600<(Ge s).length)
def Tg(s:List UInt8):Bool:=Gx s&&!(Nat.gcd (JF ((Lib.trimPrefix s [45]).take (ahead Jx (Lib.trimPrefix s [45])))) (JF (Ge s))==1)
def HH(s:List UInt8):Int:=if Rj s=true then 1 else if P7 s=true then 1 else if Rf s=true then 4 else if Tg s=true then 1 else 0
theorem Nq{l:List UInt8}(h:(!J7 l)=false):0<l.length:=by
 rcases Nat.eq_zero_or_pos l.length with g | g
 ·rw[List.eq_nil_of_length_eq_zero g]at h;simp[J7]at h
 exact g
theorem yH{p:UInt8->Bool}(h:∀c∈s,p c=true):s.takeWhile p=s:=by
 induction s with
 |nil=>rfl
 |cons c r ih=>rw[List.takeWhile_cons_of_pos (h c wz),ih (λd hd=>h d (by simp[hd]))]
def LA{l:List UInt8}(h:XT l=true):sz (JF l:Int)<=4*l.length:=by
 rw[XF];have h1:=VM h;have h2:10^l.length<=2^(4*l.length):=by rw[Nat.pow_mul];exact Nat.pow_le_pow_left wu _
 simp;omega
theorem CV(s:List UInt8):(ZO 47 s).1=s.take (ahead Jx s)/\(ZO 47 s).2.1=s.drop (ahead Jx s+1)/\(ZO 47 s).2.2=decide (ahead Jx s<s.length):=by
 have hf:(λc:UInt8=>!Jx c)=λc=>c != 47:=by funext c;simp[Jx,bne]
 have h1:=Kc (λc:UInt8=>c != 47) s;have ha:ahead Jx s=(s.takeWhile λc=>c != 47).length:=by unfold ahead;rw[hf]
 rw[ha];by_cases hc:s.contains 47=true
 ·have e:ZO 47 s=(s.takeWhile (· != 47),(s.dropWhile (· != 47)).drop 1,true):=by unfold ZO;rw[if_pos hc]
  rw[e];obtain⟨r,hr⟩:=BK (show(47:UInt8)∈s by simpa using hc);have hd:=h1.2;rw[hr]at hd;refine⟨h1.1.symm,?_,?_⟩
  ·show(s.dropWhile (· != 47)).drop 1=_;rw[hr,<-List.drop_drop,hd]
  have:(s.takeWhile λc=>c != 47).length<s.length:=by
   have:=congrArg List.length hd;rw[List.length_drop,List.length_cons]at this;omega
  simp[this]
 have e:ZO 47 s=(s,[],false):=by unfold ZO;rw[if_neg hc]
 rw[e];have h2:s.takeWhile (λc=>c != 47)=s:=by
  refine yH λc hm=>?_;have:c≠47:=by rintro rfl;exact hc (by simpa using hm)
  simpa using this
 rw[h2];simp
theorem qO(s:List UInt8):Lib.trimPrefix (ZO 47 s).1 [45]=(ZO 47 (Lib.trimPrefix s [45])).1/\Lib.hasPrefix (ZO 47 s).1 [45]=Lib.hasPrefix s [45]/\(ZO 47 s).2=(ZO 47 (Lib.trimPrefix s [45])).2:=by
 cases s with
 |nil=>exact⟨rfl,rfl,rfl⟩
 |cons c r =>
  by_cases hc:c=45
  ·subst hc;have e:Lib.trimPrefix (45::r) [45]=r:=rfl;rw[e];unfold ZO;have h0:((45:UInt8)::r).contains 47=r.contains 47:=wz;rw[h0];split
   ·exact⟨rfl,rfl,rfl⟩
   exact⟨rfl,rfl,rfl⟩
  have hp:Lib.hasPrefix (c::r) [45]=false:=by
   rw[Y7 wz];simpa using hc
  have e:Lib.trimPrefix (c::r) [45]=c::r:=by unfold Lib.trimPrefix;rw[if_neg (by rw[hp];decide)]
  rw[e];have e2:∀l:List UInt8,Lib.hasPrefix l [45]=false->Lib.trimPrefix l [45]=l:=λl h=>by unfold Lib.trimPrefix;rw[if_neg (by rw[h];decide)]
  have h3:Lib.hasPrefix (ZO 47 (c::r)).1 [45]=false:=by
   unfold ZO;split
   ·by_cases h47:c=47
    ·subst h47;rfl
    rw[List.takeWhile_cons_of_pos (by simpa using h47),Y7 wz];simpa using hc
   exact hp
  exact⟨e2 _ h3,by rw[h3,hp],rfl⟩
def vL(h1:Rj s=false)(h2:P7 s=false)(hk:ahead Jx (Lib.trimPrefix s [45])<(Lib.trimPrefix s [45]).length):XT ((Lib.trimPrefix s [45]).take (ahead Jx (Lib.trimPrefix s [45])))=true/\XT (Ge s)=true:=by
 have hs:Gx s=true:=by simp[Gx];exact hk
 simp only[Rj,Bool.or_eq_false_iff,Bool.not_eq_false']at h1;simp only[P7,hs,Bool.true_and,Bool.or_eq_false_iff,Bool.not_eq_false']at h2;exact⟨KP h1.1,KP h2.1⟩
theorem CN(s:List UInt8):HH s=Jy s:=by
 obtain⟨t1,t2,t3⟩:=qO s;obtain⟨c1,c2,c3⟩:=CV (Lib.trimPrefix s [45]);have t4:(ZO 47 s).2.1=Ge s:=by rw[t3,c2];rfl
 have t5:(ZO 47 s).2.2=Gx s:=by rw[t3,c3];rfl
 have hlen:(Lib.trimPrefix s [45]).take (ahead Jx (Lib.trimPrefix s [45]))=(Lib.trimPrefix s [45]).take (ahead Jx (Lib.trimPrefix s [45])):=rfl;have hk:((Lib.trimPrefix s [45]).take (ahead Jx (Lib.trimPrefix s [45]))).length=ahead Jx (Lib.trimPrefix s [45]):=by
  rw[List.length_take];have:=KE Jx (Lib.trimPrefix s [45]);omega
 unfold Jy Wd HH FJ Rj P7 Rf Tg;rw[t1,t2,t4,t5,c1,hk];generalize (Lib.trimPrefix s [45]).take (ahead Jx (Lib.trimPrefix s [45]))=a;generalize Ge s=d;generalize Gx s=f;generalize Lib.hasPrefix s [45]=n;have e:(!J7 a||(n&&a==[48])||(f&&(!J7 d||d==[48]||d==[49])))=((!J7 a||(n&&a==[48]))||(f&&(!J7 d||(d==[48]||d==[49])))):=by rw[Bool.or_assoc (!J7 d)]
 rw[e];cases (!J7 a||(n&&a==[48]))<;>cases (f&&(!J7 d||(d==[48]||d==[49])))<;>rfl
theorem EI(hF:Fits F w)(hl:s.length<=9223372036854775807):Qb prog 62 [tx s] w F (.int .i64 (Jy s)):=by
 rw[<-CN];have hln:(Lib.trimPrefix s [45]).length<=s.length:=Nt _ _;have hah:=KE Jx (Lib.trimPrefix s [45]);refine QU.intro (G:=λF=>True) func62 rfl wy rfl rfl hF w8<|QGi<|wQ rfl<|wR rfl<|QF6 rfl<|QE<|QD ?_
 refine X8 [(0,_)] [(3,tx (Lib.trimPrefix s [45]))] wS ?_ ?_
 ·refine X8 [(0,_),(3,_)] [(16,.bool (Lib.hasPrefix s [45]))] wT ?_ ?_
  ·refine wA 2 I<|QA (Js I XC)<|wB 2 I ?_
   refine Qe (t:=12) rfl (λhb12=>?_) λhb12=>?_
   ·refine wB 3 I<|QA (Y5 (i:=0) rfl rfl XC (wk<|QGx hb12))<|wB 4 I ?_
    exact JB ⟨rfl,rfl,(congrArg (λb=>some (Value.bool b)) (by have h0:0<s.length:=(wk<|QGx hb12);rw[Y7 h0];exact Gt I)),trivial⟩ QGJ w9
   refine wB 5 I ?_;exact JB ⟨rfl,rfl,(congrArg (λb=>some (Value.bool b)) (by have h0:s.length=0:=(wk<|QGy hb12);rw[List.eq_nil_of_length_eq_zero h0];rfl)),trivial⟩ QGJ w9
  simp only[List.cons_append,List.nil_append];refine QP I (λhc=>?_) λhc=>?_
  ·refine wA 2 I<|QA (Zy (1) rfl rfl XC I (Bh hc))<|wB 2 I ?_
   exact JB ⟨rfl,(congrArg (λl=>some (tx l)) (by unfold Lib.trimPrefix;rw[if_pos hc];rfl)),trivial⟩ QGJ w9
  refine QM ?_;exact JB ⟨rfl,(congrArg (λl=>some (tx l)) (by unfold Lib.trimPrefix;rw[hc];rfl)),trivial⟩ QGJ w9
 simp only[List.cons_append,List.nil_append];refine wR I<|QJ I (λ_ _ f k=>Wj f O) λ_=>wQ I<|QG ?_
 refine X8 [(3,_),(4,_)] [(36,.bool (Rj s))] wT ?_ ?_
 ·refine wA 3 I<|QA (WK ((ahead Jx (Lib.trimPrefix s [45]))) I I XC I O)<|QJ I (λ_ _ f k=>LN f (by rw[List.length_take];omega)) λ_=>QA (Jw I)<|QF5 I ?_
  refine Qe (t:=26) rfl (λhb26=>?_) λhb26=>?_
  ·refine wB 4 I<|Ja I I<|Ja I I<|Ja I I<|Ja I I<|wB 3 I ?_
   exact JB ⟨rfl,rfl,(congrArg (λb=>some (Value.bool b)) (by simp[Rj]at hb26 ⊢;simp[hb26])),trivial⟩ QGJ tA
  refine wB 3 I<|QA (Y5 (i:=0) rfl rfl WH (by have h1:=Nq hb26;rw[List.length_take]at h1;omega))<|wB 4 I ?_
  refine Qe (t:=30) rfl (λhb30=>?_) λhb30=>?_
  ·refine wB 5 I<|QA (WK ((ahead Jx (Lib.trimPrefix s [45]))) I I XC I O)<|QK I I<|QA (Y6 I I)<|wB 4 I ?_
   exact JB ⟨rfl,rfl,(congrArg (λb=>some (Value.bool b)) (by have h0:0<s.length:=(by have h1:=Nq hb26;rw[List.length_take]at h1;omega);have hp:Lib.hasPrefix s [45]=true:=(by rw[Y7 h0,<-Gt (z:=45) rfl];exact hb30);simp[Rj]at hb26 ⊢;simp[hb26,hp])),trivial⟩ QGJ tA
  refine wB 8 I ?_;exact JB ⟨rfl,rfl,(congrArg (λb=>some (Value.bool b)) (by have h0:0<s.length:=(by have h1:=Nq hb26;rw[List.length_take]at h1;omega);have hp:Lib.hasPrefix s [45]=false:=(by rw[Y7 h0,<-Gt (z:=45) rfl];exact hb30);simp[Rj]at hb26 ⊢;simp[hb26,hp])),trivial⟩ QGJ tA
 simp only[List.cons_append,List.nil_append];refine QP I (λhc=>?_) λhc=>?_
 ·have hb1:Rj s=true:=hc;refine wA 6 I ?_;exact QHT I I (congrArg (Value.int .i64) (by simp[HH,hb1])) w8
 have hb1:Rj s=false:=hc;refine QHC 3 I ?_;refine X8 [(3,_),(4,_)] [(62,.bool (P7 s))] wT ?_ ?_
 ·refine wA 3 I<|QA (Js I XC)<|wB 2 I ?_
  refine Qe (t:=41) rfl (λhb41=>?_) λhb41=>?_
  ·refine wB 5 I<|QA (Qm I I (by first | omega | (simp only[decide_eq_true_eq]at *;omega)))<|QK I I<|QA (Zy (((ahead Jx (Lib.trimPrefix s [45]))+1)) I I XC wM (wk<|QGx hb41))<|QK I I<|QJ I (λ_ _ f k=>LN f (by rw[List.length_drop];omega)) λ_=>QK I I<|QA (Jw I)<|wB 2 I ?_
   refine Qe (t:=48) rfl (λhb48=>?_) λhb48=>?_
   ·refine wB 18 I ?_;exact JB ⟨rfl,rfl,(congrArg (λb=>some (Value.bool b)) (by have h1:Gx s=true:=(by simp[Gx];simpa using hb41);simp[P7,h1];simp at hb48;exact .inl hb48)),trivial⟩ QGJ tA
   refine wB 5 I<|QA (Qm I I (by first | omega | (simp only[decide_eq_true_eq]at *;omega)))<|QK I I<|QA (Zy (((ahead Jx (Lib.trimPrefix s [45]))+1)) I I XC wM (wk<|QGx hb41))<|QK I I<|QA (Y6 I I)<|wB 4 I ?_
   refine Qe (t:=55) rfl (λhb55=>?_) λhb55=>?_
   ·refine wB 9 I ?_;exact JB ⟨rfl,rfl,(congrArg (λb=>some (Value.bool b)) (by have h1:Gx s=true:=(by simp[Gx];simpa using hb41);simp[P7,h1];exact .inr (.inl (by simpa[Ge]using hb55)))),trivial⟩ QGJ tA
   refine wB 5 I<|QA (Qm I I (by first | omega | (simp only[decide_eq_true_eq]at *;omega)))<|QK I I<|QA (Zy (((ahead Jx (Lib.trimPrefix s [45]))+1)) I I XC wM (wk<|QGx hb41))<|QK I I<|QA (Y6 I I)<|wB 4 I ?_
   exact JB ⟨rfl,rfl,(congrArg (λb=>some (Value.bool b)) (by have h1:Gx s=true:=(by simp[Gx];simpa using hb41);simp at hb48 hb55;simp[P7,h1,Ge,hb48,hb55])),trivial⟩ QGJ tA
  refine wB 7 I<|Ja I I<|Ja I I<|Ja I I<|Ja I I<|Ja I I<|wB 2 I<|Ja I I<|Ja I I<|Ja I I<|Ja I I<|Ja I I<|wB 3 I ?_
  exact JB ⟨rfl,rfl,(congrArg (λb=>some (Value.bool b)) (by have h1:Gx s=false:=(by simp[Gx];simpa using hb41);simp[P7,h1])),trivial⟩ QGJ w9
 simp only[List.cons_append,List.nil_append];refine QP I (λhc=>?_) λhc=>?_
 ·have hb2:P7 s=true:=hc;refine wA 6 I ?_;exact QHT I I (congrArg (Value.int .i64) (by simp[HH,hb1,hb2])) w8
 have hb2:P7 s=false:=hc;refine QHC 3 I ?_;refine X8 [(3,_),(4,_)] [(72,.bool (Rf s))] wT ?_ ?_
 ·refine wA 4 I ?_;refine Qe (t:=65) rfl (λhb65=>?_) λhb65=>?_
  ·refine wB 8 I ?_;exact JB ⟨rfl,rfl,(congrArg (λb=>some (Value.bool b)) (by have:=QGx hb65;simp[Rf];left;omega)),trivial⟩ QGJ w9
  refine wB 3 I<|QA (Js I XC)<|wB 3 I<|QA (J1 I I O)<|QK I I<|QA (J1 I I O)<|wB 4 I ?_
  exact JB ⟨rfl,rfl,(congrArg (λb=>some (Value.bool b)) (by rw[Bool.eq_iff_iff];have:=QGy hb65;simp[Rf,Ge];omega)),trivial⟩ QGJ w9
 simp only[List.cons_append,List.nil_append];refine QP I (λhc=>?_) λhc=>?_
 ·have hb3:Rf s=true:=hc;refine wA 6 I ?_;exact QHT I I (congrArg (Value.int .i64) (by simp[HH,hb1,hb2,hb3])) w8
 have hb3:Rf s=false:=hc;have hk6:ahead Jx (Lib.trimPrefix s [45])<=600:=by simp[Rf]at hb3;exact hb3.1
 refine QHC 7 I<|QA (Js I XC)<|QHB 3 I ?_
 refine QP I (λhc=>?_) λhc=>?_
 ·have hk:ahead Jx (Lib.trimPrefix s [45])<(Lib.trimPrefix s [45]).length:=wk<|QGx hc
  obtain⟨da,dd⟩:=vL hb1 hb2 hk;refine wR I<|QJ I (λ_ _ f k=>OU f (s:=(Lib.trimPrefix s [45])) (by have h6:(Ge s).length<=600:=(by simp[Rf]at hb3;exact hb3.2);have h7:(Ge s).length=(Lib.trimPrefix s [45]).length-(ahead Jx (Lib.trimPrefix s [45])+1):=(by unfold Ge;rw[List.length_drop]);omega) (by rw[Yo da];exact da) λ_=>by rw[show(List.drop (ahead Jx (Lib.trimPrefix s [45])+1) (Lib.trimPrefix s [45]))=Ge s from rfl,Yo dd];exact dd) λc79=>QF5 rfl<|QA (QX rfl rfl)<|QA (QX rfl rfl)<|Qg ZB λb5=>Qg ZB λb6=>QZ (vs:=[_,_]) rfl rfl rfl Q9 rfl .u1 .h2 wT<|QZ (vs:=[_,_]) rfl rfl rfl Q9 rfl .here .h2 wT<|QF4<|QG<|Xe _ (λ_ _ f h=>And.intro h.2.1.p (And.intro (h.2.2 hk).p (And.intro h.2.1.1.2.1 (h.2.2 hk).1.2.1))) λpp=>?_
  obtain⟨pa,pd,na,nd⟩:=pp;rw[ZE da]at pa;have pd2:=pd;rw[show Zx ((Lib.trimPrefix s [45]).drop (ahead Jx (Lib.trimPrefix s [45])+1))=JF (Ge s)from ZE dd]at pd2;have la:=pa.len;have ld:=pd2.len;have sa:=LA da;have sd:=LA dd;have h600:(Ge s).length<=600:=by simp[Rf]at hb3;exact hb3.2
  rw[List.length_take]at sa;refine QB<|QA (QH I XW Q5)<|QA (Qh I Q5 .u1 (.skip .h1))<|QA (QH I XW Q5)<|QA (Qh I Q5 .here (.skip .h1)) ?_
  refine QJ I (λ_ _ f k=>R9 f (a:=c79.1.l) (b:=c79.2.l) (ra:=c79.1.r) (rb:=c79.2.r) k.2.1.1 ((k.2.2 hk).1) (pa.dg) (pd.dg) (pa.nz) (pd.nz) O O) (λc86=>?_);rcases c86 with ⟨v86,l86⟩;dsimp only;refine JN _ (λw F hF ⟨⟨⟨hT,_⟩,h79⟩,⟨h86,h86p⟩⟩=>And.intro h86.2 h86p) (λp86=>QF6 rfl<|QE<|QD ?_);refine X8 [] [(95,.bool (Tg s))] trivial ?_ ?_
  ·have hgc:dv B9 l86=(Nat.gcd (JF ((Lib.trimPrefix s [45]).take (ahead Jx (Lib.trimPrefix s [45])))) (JF (Ge s)):Nat):=by
    rw[p86.2.2.2,As pa pd2];rfl
   have hone:=PI p86.2.1 p86.2.2.1;have hsl:Gx s=true:=by simp[Gx];exact hk
   refine wA 2 I<|QA (Qf I Qk)<|wB 2 I ?_
   refine Qe (t:=90) rfl (λhb90=>?_) λhb90=>?_
   ·refine wB 6 I ?_;exact JB ⟨(congrArg (λb=>some (Value.bool b)) (by have h1:¬l86.length=1:=(by simp at hb90;omega);rw[Bool.eq_iff_iff];simp[Tg,hsl];intro g;exact h1 (hone.2 (by rw[hgc,g];rfl)).1)),trivial⟩ QGJ w9
   have hn1:v86.n=1:=by simp at hb90;omega
   refine wB 3 I<|QA (Q2 (n:=v86.n) (0) (λF h9=>(h9.2.1).1) rfl wM Qk Qu O)<|QK I I<|QA (Qz (n:=v86.n) ((0)*1) (λF h9=>(h9.2.1).1) O I Qu (JH (o:=l86) O))<|wB 4 I ?_
   exact JB ⟨(congrArg (λb=>some (Value.bool b)) (by have h1:l86.length=1:=O;rw[Bool.eq_iff_iff];simp[Tg,hsl];exact not_congr ⟨λe=>by have h2:=hone.1 ⟨h1,e⟩;rw[hgc]at h2;omega,λe=>(hone.2 (by rw[hgc,e];rfl)).2⟩)),trivial⟩ QGJ w9
  simp only[List.cons_append,List.nil_append];refine QP I (λhc=>?_) λhc=>?_
  ·have hg4:Tg s=true:=hc;refine wA 6 I ?_;exact QHT I I (congrArg (Value.int .i64) (by simp[HH,hb1,hb2,hb3,hg4])) w8
  have hg4:Tg s=false:=hc;refine QHC 8 I ?_;exact QHT I I (congrArg (Value.int .i64) (by simp[HH,hb1,hb2,hb3,hg4])) w8
 have hg4:Tg s=false:=by have:=QGy hc;simp[Tg,Gx];intro g;omega
 refine QHC 8 I ?_;exact QHT I I (congrArg (Value.int .i64) (by simp[HH,hb1,hb2,hb3,hg4])) w8
theorem PA(hF:Fits F w)(hl:s.length<=1000000):Qb prog 62 [tx s] w F (.int .i64 (Jy s)) :=
 EI hF (Nat.le_trans hl wu)
structure Zc{α:Type}(l:List α)(f:α->Int) where
 i:Nat
 le:i<=l.length
 h:Qn (l.map f)=Qn ((l.map f).drop i)
section
variable{α:Type}[Inhabited α]{l:List α}{f:α->Int}
def TV(hi:i<l.length):(l.map f)[i]'(by simpa using hi)=f (el l i):=by rw[List.getElem_map,J4 hi]
def Zc.next(s:Zc l f)(hi:s.i<l.length)(h:f (el l s.i)=0):Zc l f:=⟨s.i+1,hi,by
 rw[s.h,Kr (by simpa using hi) (by rw[TV hi];exact h)]⟩
def Zc.hit(s:Zc l f)(hi:s.i<l.length)(h:f (el l s.i)≠0):Qn (l.map f)=f (el l s.i):=by
 rw[s.h,GK (by simpa using hi) (by rw[TV hi];exact h),TV hi]
def Zc.stop(s:Zc l f)(hi:l.length<=s.i):Qn (l.map f)=0:=by
 rw[s.h,List.drop_of_length_le (by simpa using hi)];rfl
end
def Zc.start{α:Type}(l:List α)(f:α->Int):Zc l f:=⟨0,Nat.zero_le _,rfl⟩
structure Gg{α:Type}(l:List α)(p:α->Bool) where
 i:Nat
 le:i<=l.length
 h:l.all p=(l.drop i).all p
section
variable{α:Type}[Inhabited α]{l:List α}{p:α->Bool}
def Gg.next(s:Gg l p)(hi:s.i<l.length)(h:p (el l s.i)=true):Gg l p:=⟨s.i+1,hi,by rw[s.h,Dk hi,List.all_cons,h,Bool.true_and]⟩
def Gg.hit(s:Gg l p)(hi:s.i<l.length)(h:p (el l s.i)=false):l.all p=false:=by rw[s.h,Dk hi,List.all_cons,h,Bool.false_and]
def Gg.stop(s:Gg l p)(hi:l.length<=s.i):l.all p=true:=by rw[s.h,List.drop_of_length_le hi];rfl
end
def Gg.start{α:Type}(l:List α)(p:α->Bool):Gg l p:=⟨0,Nat.zero_le _,rfl⟩
def Ny(p:List UInt8×List UInt8):List Value:=[tx p.1,tx p.2]
def Gi(p:List UInt8×List UInt8):(Ny p).length=2:=rfl
theorem Cz{a b:List UInt8}(hF:Fits F w)(ha:Jy a=0)(hb:Jy b=0):Qb prog 112 [tx a,tx b] w F (.int .i64 (Wx (Yn a) (Yn b))):=by
 have h1:=V7 ha;have h2:=V7 hb;have:=pU (x:=Yn a) (y:=Yn b) hF O O;rw[<-(Zb ha).1,<-(Zb hb).1]at this;exact this
theorem Co{l:List (List UInt8)}(hF:Fits F w)(hR:Qy F q n 1 (l.map tx))(hl:l.length=n/\∀s∈l,s.length<=1000000)(hn:n<=1000000):Qb prog 14 [.slice q n c] w F (.int .i64 (Qn (l.map Jy))):=by
 have hln:=hl.1;refine QU.intro (G:=λF=>Qy F q n 1 (l.map tx)) func14 rfl wy rfl rfl hF (λF' hF'=>hR.le hF')<|QGi<|wQ rfl<|QG<|QGi<|wQ rfl<|QS<|J2 (ι:=Zc l Jy) [(0,_)] (λi=>[(3,.int .i64 ((i.i:Nat):Int))]) (λi=>l.length-i.i) (Zc.start _ _) wS wS λi=>?_
 simp only[List.cons_append,List.nil_append];refine wA 5 I<|QA (Qf I K3)<|QHB 3 I ?_
 refine QP I (λhc=>?_) λhc=>?_
 ·have hi:i.i<l.length:=wk<|QGx hc
  refine QHC 8 I<|QA (Q2 (n:=n) i.i w9 rfl rfl K3 Jk O)<|QA (Qz (n:=n) ((i.i)*1) w9 O I Jk (ZD (f:=tx) (l:=l) O))<|QJ I (λ_ _ f k=>PA f (hl.2 _ (JK hi))) λ_=>QHB 9 I ?_
  refine QP I (λhc=>?_) λhc=>?_
  ·refine wA 7 I ?_
   repeat first|refine Qw ?_|refine Qp ?_
   exact QHT I I (congrArg (Value.int .i64) (i.hit hi (by simpa using hc))) w8
  refine QM<|Qi<|QHD 3 I<|QA (Qm I I O)<|wB 2 I ?_
  exact Qj (i.next hi (by simpa using hc)) (by show l.length-(i.i+1)<l.length-i.i;omega) wT QGJ tA
 have hi:l.length<=i.i:=wk<|QGy hc
 refine Qv ?_
 repeat first|refine QV ?_|refine QQ wy ?_
 refine QW<|QHD 7 I ?_
 exact QHT I I (congrArg (Value.int .i64) (i.stop hi)) w8
def Gd(a:List UInt8)(d:Int):Bool:=decide ((a.length:Int)<=2*d+2)&&(Jy a==0&&(decide (((Cb (numOf a)).length:Int)<=d)&&decide (((Fk a).length:Int)<=d)))
def SI(a:List UInt8):(numOf a).length<=a.length:=by unfold numOf;rw[List.length_take];omega
def Ax(d:Int)(p:List UInt8×List UInt8):Bool:=Gd p.1 d&&(Gd p.2 d&&!decide (Wx (Yn p.1) (Yn p.2)>0))
def Lu{a:List UInt8}(h:Gd a d=true):Jy a=0:=by
 simp only[Gd,Bool.and_eq_true,beq_iff_eq]at h;exact h.2.1
theorem pT{a:List UInt8}(hF:Fits F w)(hl:a.length<=1000000)(hd:0<=d/\d<=1000000):Qb prog 33 [tx a,.int .i64 d] w F (.bool (Gd a d)):=by
 have hn:=SI a;refine QU.intro (G:=λF=>True) func33 rfl wy rfl rfl hF w8<|QGi<|wQ rfl<|wR rfl<|QA (Js rfl WH)<|QF5 rfl<|QA (Vm rfl rfl O)<|QA (Qm rfl rfl O)<|QA (QN rfl rfl rfl)<|QF5 rfl ?_
 refine Qe (t:=11) rfl (λhb11=>?_) λhb11=>?_
 ·refine wB 3 I<|QJ I (λ_ _ f k=>PA f (hl)) λ_=>wB 4 I ?_
  refine Qe (t:=16) rfl (λhb16=>?_) λhb16=>?_
  ·refine wB 3 I<|QJ I (λ_ _ f k=>q7 f O) λ_=>QK I I<|QJ I (λ_ _ f k=>jE f ) λ_=>QK I I<|QA (Js I WH)<|wB 6 I ?_
   refine Qe (t:=24) rfl (λhb24=>?_) λhb24=>?_
   ·refine wB 3 I<|QJ I (λ_ _ f k=>jC f O) λ_=>QK I I<|QA (Js I WH)<|QHB 9 I ?_
    exact QHT I I ((congrArg Value.bool (by have h1:=QGx hb11;simp[Gd,h1];simp at hb16 hb24;simp[hb16,hb24]))) w8
   refine QHB 10 I ?_;exact QHT I I ((congrArg Value.bool (by have h1:=QGx hb11;simp[Gd,h1];simp at hb16 hb24;simp[hb16];intro g;omega))) w8
  refine QHB 18 I ?_;exact QHT I I ((congrArg Value.bool (by have h1:=QGx hb11;simp at hb16;simp[Gd,h1,hb16]))) w8
 refine QHB 23 I ?_;exact QHT I I ((congrArg Value.bool (by simp[Gd,hb11]))) w8
section
open Go Go.RowKit
section
variable[Dr][df:Df]
def KV(l:List Oper)(r:List Nat)(i:Nat):Bool:=match l[i]? with
 |some o=>o.after.all λe=>!(Region.binds .any e)||!(r.contains e.on)
 |none=>false
def PB(l:List Oper)(i:Nat):Bool:=match l[i]? with
 |some o=>Jr o.op
 |none=>false
def GU(l:List Oper)(r:List Nat):Option Nat:=r.find? λi=>PB l i&&KV l r i
def Bw(l:List Oper):Bool :=
 Region.noSelect l.toArray&&Kq .any l.toArray l.length&&(List.range l.length).all λj=>match l[j]? with
  |none=>false
  |some oj=>(List.range j).all λi=>match l[i]? with
   |none=>false
   |some oi=>if Jr oi.op||Jr oj.op then(Region.waitsFor .any l.toArray j i||oi.apart l.toArray oj)else true
theorem BY{l:List Oper}(h:Bw l=true){i j:Nat}(hij:i<j){oi oj:Oper}(hi:l[i]?=some oi)(hj:l[j]?=some oj)(hq:(Jr oi.op||Jr oj.op)=true):(Region.waitsFor .any l.toArray j i||oi.apart l.toArray oj)=true:=by
 simp only[Bw,Bool.and_eq_true]at h;have hjl:j<l.length:=by rcases Nat.lt_or_ge j l.length with g | g;exact g;rw[List.getElem?_eq_none g]at hj;cases hj
 have h1:=List.all_eq_true.1 h.2 j (List.mem_range.2 hjl);rw[hj]at h1;have h2:=List.all_eq_true.1 h1 i (List.mem_range.2 hij);rw[hi]at h2;simp only at h2;rw[if_pos hq]at h2;exact h2
section
variable{P:Program}{Q:Exit->Act->World->Prop}{S:World->Prop}
def B5(P:Program)(l:List Oper)(Q:Exit->Act->World->Prop)(S:World->Prop):Nat->List Nat->Act->World->Prop
 |0,_,a,w=>Q .normal a w
 |n+1,r,a,w=>match GU l r with
  |some i=>∃o v,l[i]?=some o/\YieldsIf P l.toArray S o v a/\B5 P l Q S n (r.erase i) (a.put o.dst v) w
  |none=>∀i∈r,KV l r i=true->wpOp P l.toArray (λ_ _ _=>False) i (λa' w'=>S w'/\B5 P l Q S n (r.erase i) a' w') a w
theorem qP{l:List Oper}(hB:Bw l=true)(hQ:∀c a d v w,Q (.panic c) (Act.put a d v) w->Q (.panic c) a w):
  ∀(m:Nat) (r:List Nat) (listed:Array Bool) (a:Act) (w:World),r.length=m->r.Pairwise (·<·)->(∀i,i∈r↔i<l.length/\listed.getD i true=false)->listed.size=l.length ->
   (∀j oj,l.toArray[j]?=some oj->listed.getD j false=true->∀e∈oj.after,Region.binds .any e=true->listed.getD e.on false=true)->S w->B5 P l Q S m r a w->wpAnyH P .any l.toArray Q S m listed a w:=by
 have hB':=hB;simp only[Bw,Bool.and_eq_true]at hB';obtain⟨⟨hns,hord⟩,_⟩:=hB';have hsel:=Region.noSelect_spec hns;intro m
 induction m with
 |zero =>
  intro r listed a w hm hs hr hsz hcl hS h;have:r=[]:=List.length_eq_zero_iff.1 hm;subst this;refine⟨?_,h⟩;rw[List.eq_nil_iff_forall_not_mem];intro i hi;obtain⟨h1,o,ho,_⟩:=mem_ready.1 hi;have hlt:i<l.length:=by have:=(Array.getElem?_eq_some_iff.1 ho).1;simpa using this
  have:=(hr i).2 ⟨hlt,h1⟩;cases this
 |succ m ih =>
  intro r listed a w hm hs hr hsz hcl hS h;have hready:∀j,j∈Region.ready .any l.toArray listed↔j∈r/\KV l r j=true:=by
   intro j;rw[mem_ready,hr j];constructor
   ·rintro⟨h1,o,ho,h2⟩;have hlt:j<l.length:=by have:=(Array.getElem?_eq_some_iff.1 ho).1;simpa using this
    refine⟨⟨hlt,h1⟩,?_⟩;unfold KV;have ho':l[j]?=some o:=by simpa using ho
    rw[ho'];rw[Array.all_eq_true_iff_forall_mem];intro e he;cases hb:Region.binds .any e with
    |false=>rfl
    |true =>
     have:=h2 e he hb;simp only[Bool.not_true,Bool.false_or,Bool.not_eq_true',List.contains_eq_mem,decide_eq_false_iff_not];intro hmem;have h3:=((hr e.on).1 hmem).2;rw[getD_both h3]at this;cases this
   rintro⟨⟨hlt,h1⟩,h2⟩;obtain⟨o,ho,hed⟩:=Xh hord hlt;refine⟨h1,o,ho,λe he hb=>?_⟩;unfold KV at h2;have ho':l[j]?=some o:=by simpa using ho
   rw[ho',Array.all_eq_true_iff_forall_mem]at h2;have:=h2 e he;rw[hb]at this;simp only[Bool.not_true,Bool.false_or,Bool.not_eq_true',List.contains_eq_mem,decide_eq_false_iff_not]at this;cases hv:listed.getD e.on false with
   |true=>rfl
   |false =>
    have hel:=hed e he hb;exact absurd ((hr e.on).2 ⟨O,getD_in O hv⟩) this
  have next:∀j,j∈Region.ready .any l.toArray listed->∀a' w',S w'->B5 P l Q S m (r.erase j) a' w'->wpAnyH P .any l.toArray Q S m (listed.setIfInBounds j true) a' w':=by
   intro j hj a' w' hS' h';have hjr:=((hready j).1 hj).1;have hjsz:j<listed.size:=by rw[hsz];exact((hr j).1 hjr).1
   refine ih (r.erase j) _ a' w' (by rw[List.length_erase_of_mem hjr];omega) (hs.sublist List.erase_sublist) (λk=>?_) (by simpa using hsz) (λk ok hk hl e he hb=>?_) hS' h'
   ·rw[List.Nodup.mem_erase_iff (hs.imp λh=>Nat.ne_of_lt h),hr k];by_cases hjk:j=k
    ·subst hjk;simp[hjsz]
    rw[getD_set_ne true hjk];simp[Ne.symm hjk]
   by_cases hjk:j=k
   ·subst hjk;obtain⟨_,oj,hoj,hall⟩:=mem_ready.1 hj;have:ok=oj:=Option.some.inj (hk.symm.trans hoj);subst this;exact getD_set_true (hall e he hb)
   rw[getD_set_ne false hjk]at hl;exact getD_set_true (hcl k ok hk hl e he hb)
  unfold B5 at h;cases hp:GU l r with
  |some j =>
   rw[hp]at h;obtain⟨oj,v,hoj0,hy,h'⟩:=h;have hoj:l.toArray[j]?=some oj:=by simpa using hoj0
   have hjr:j∈r:=List.mem_of_find?_eq_some hp;have hqr:=List.find?_some hp;simp only[Bool.and_eq_true]at hqr;have hq:Jr oj.op=true:=by have:=hqr.1;unfold PB at this;rw[hoj0]at this;exact this
   have hj:j∈Region.ready .any l.toArray listed:=(hready j).2 ⟨hjr,hqr.2⟩;have hjs:=mem_ready.1 hj;have happ:∀k ok,l.toArray[k]?=some ok->k≠j->listed.getD k true=false->(∀e∈ok.after,Region.binds .any e=true->e.on≠j)->oj.apart l.toArray ok=true:=by
    intro k ok hok hkj hun hno;have hnw:Region.waitsFor .any l.toArray k j=false:=by
     cases hv:Region.waitsFor .any l.toArray k j with
     |false=>rfl
     |true =>
      obtain⟨o',ho',e,he,hb,hon⟩:=Region.waitsFor_spec hv;have:o'=ok:=Option.some.inj (ho'.symm.trans hok);subst this;exact absurd hon (hno e he hb)
    have hnw2:Region.waitsFor .any l.toArray j k=false:=by
     cases hv:Region.waitsFor .any l.toArray j k with
     |false=>rfl
     |true =>
      obtain⟨o',ho',e,he,hb,hon⟩:=Region.waitsFor_spec hv;obtain⟨_,o2,ho2,hall⟩:=hjs;have:o'=o2:=Option.some.inj (ho'.symm.trans ho2);subst this;have:=hall e he hb;rw[hon,getD_both hun]at this;cases this
    rcases Nat.lt_or_gt_of_ne hkj with hlt | hgt
    ·have:=BY hB hlt (by simpa using hok) (by simpa using hoj) (by simp[hq]);rw[hnw2]at this;exact Ed (by simpa using this)
    have:=BY hB hgt (by simpa using hoj) (by simpa using hok) (by simp[hq]);rw[hnw]at this;simpa using this
   exact wpAnyH_first hoj hsel (λc a w h=>hQ c a _ v w h) m listed a w happ hj hy hS (next j hj _ w hS h')
  |none =>
   rw[hp]at h
   match r,hm,hs,hr,h,hready,next with
   |i::r,hm,hs,hr,h,hready,next =>
    have hil:=(hr i).1 wz;have hmin:∀j,j<i->listed.getD j false=true:=by
     intro j hj;cases hv:listed.getD j false with
     |true=>rfl
     |false =>
      have hjl:j<l.length:=O;have:=(hr j).2 ⟨hjl,getD_in O hv⟩;rcases List.mem_cons.1 this with e | e
      ·omega
      have:=(List.pairwise_cons.1 hs).1 j e;omega
    obtain⟨oi,hoi,hed⟩:=Xh hord hil.1;have hri:i∈Region.ready .any l.toArray listed:=mem_ready.2 ⟨hil.2,oi,hoi,λe he hb=>hmin _ (hed e he hb)⟩;refine⟨λh0=>(by rw[h0]at hri;cases hri),λj hj=>?_⟩;have hj':=(hready j).1 hj;exact Rp (wpOp_mono (λa' w' h=>⟨h.1,next j hj a' w' h.1 h.2⟩) (h j hj'.1 hj'.2))
theorem RT{l:List Oper}{Q':Exit->Act->World->Prop}(hB:Bw l=true)(hQ:∀c a w,¬Q' (.panic c) a w){a:Act}{w:World}(hS:S w)(h:B5 P l Q' S l.length (List.range' 0 l.length) a w):
  wpAny P .any l.toArray Q' l.length (Array.replicate l.length false) a w:=by
 refine wpAny_of_held _ _ _ _ (qP hB (λc a d v w h=>absurd h (hQ c _ w)) l.length (List.range' 0 l.length) _ a w wz List.pairwise_lt_range' (λi=>?_) wz (λj oj _ hl=>(by rw[getD_replicate_false]at hl;cases hl)) hS h);rw[List.mem_range'_1];constructor
 ·intro h;have:i<l.length:=O;simp[this]
 intro h;omega
theorem Nn{id:Nat}{a:Act}{l:List Oper}(hm:P.follows .mixedOrders=true)(hB:Bw l=true)(hS:S { w with drawn:=w.drawn+1 })
  (h:B5 P l (XO (Q .normal)) S l.length (List.range' 0 l.length) a { w with drawn:=w.drawn+1 }):(Code.region id l.toArray true).wp P Q a w:=by
 refine wp_region_any hm ?_;have:=RT (P:=P) (Q':=XO (Q .normal)) hB (λc a w h=>h) hS h;simpa using Vb (Q':=Q) (λe a w h=>by cases e<;>first | exact h | exact h.elim) _ _ _ _ this
end
section
variable{P:Program}{Q:Exit->Act->World->Prop}{N:Nat}{m:Sl}{E E0:Env}{l:List Oper}{r r':List Nat}{w0:World}{F0:Gs}{bs:List (Nat×Obj)}{G:Gs->Prop}
def JT(P:Program)(l:List Oper)(Q:Exit->Act->World->Prop)(E0:Env)(r:List Nat)(N:Nat)(m:Sl)(E:Env):Prop:=(∀w,St E w->St E0 w)->∀a w,JY N m a->St E w->B5 P l Q (St E0) r.length r a w
def DR(P:Program)(l:List Oper)(Q:Exit->Act->World->Prop)(E0:Env)(r:List Nat):Act->World->Prop:=λa w=>B5 P l Q (St E0) r.length r a w
theorem Z1(h:JT P l Q E0 r N m E):JD P l.toArray (XO (DR P l Q E0 r)) E0 [] N m E:=λhE a w ha hw=>h hE a w ha hw
theorem EV(h:i∈r):r.length=(r.erase i).length+1:=by
 rw[List.length_erase_of_mem h];have:=List.length_pos_of_mem h;omega
theorem NY(i:Nat){o:Oper}(hp:GU l r=some i)(ho:l[i]?=some o)(he:r.erase i=r')(h:JD P l.toArray (XO (DR P l Q E0 r')) E0 [o] N m E):JT P l Q E0 r N m E:=by
 intro hE a w ha hw;subst he;have hi:i∈r:=List.mem_of_find?_eq_some hp;rw[EV hi];unfold B5;rw[hp];have hq:Jr o.op=true:=by
  have:=List.find?_some hp;simp only[Bool.and_eq_true]at this;have:=this.1;unfold PB at this;rw[ho]at this;exact this
 rcases h hE a w ha hw with ⟨_,v,h1,h2⟩ | ⟨h1,_⟩
 ·exact⟨o,v,ho,h1,h2⟩
 rw[hq]at h1;cases h1
theorem EB{o:Oper}(ho:l[i]?=some o)(hq:Jr o.op=false)(h:JD P l.toArray (XO (DR P l Q E0 r')) E0 [o] N m E)(hE:∀w,St E w->St E0 w){a:Act}{w:World}(ha:JY N m a)(hw:St E w):
  wpOp P l.toArray (λ_ _ _=>False) i (λa' w'=>St E0 w'/\DR P l Q E0 r' a' w') a w:=by
 have ho':l.toArray[i]?=some o:=by simpa using ho
 unfold wpOp;simp only[ho'];rcases h hE a w ha hw with ⟨h1,_⟩ | ⟨_,h2⟩
 ·rw[hq]at h1;cases h1
 split
 ·rename_i g;rw[if_pos g]at h2;exact .inl h2
 rename_i g;rw[if_neg g]at h2;exact h2
theorem QCQ(hp:GU l r=none)(h:∀i∈r.filter (KV l r),∃o,l[i]?=some o/\Jr o.op=false/\JD P l.toArray (XO (DR P l Q E0 (r.erase i))) E0 [o] N m E)(hr:r≠[]:=by decide):JT P l Q E0 r N m E:=by
 intro hE a w ha hw;obtain⟨x,s,rfl⟩:=List.exists_cons_of_ne_nil hr;show B5 P l Q (St E0) (s.length+1) (x::s) a w;unfold B5;rw[hp];intro i hi hrd;obtain⟨o,ho,hq,hj⟩:=h i (List.mem_filter.2 ⟨hi,hrd⟩);have:=EB ho hq hj hE ha hw;refine wpOp_mono (λa' w' h=>⟨h.1,?_⟩) this;have h2:=h.2;unfold DR at h2;rw[show s.length=((x::s).erase i).length by have:=EV hi;simp at this;omega];exact h2
theorem K7(i:Nat){o:Oper}(hp:GU l r=none)(hl:r.filter (KV l r)=[i])(ho:l[i]?=some o)(hq:Jr o.op=false)(he:r.erase i=r')(h:JD P l.toArray (XO (DR P l Q E0 r')) E0 [o] N m E)(hr:r≠[]:=by decide):JT P l Q E0 r N m E :=
 QCQ hp (λk hk=>by rw[hl]at hk;cases List.mem_singleton.1 hk;exact⟨o,ho,hq,he ▸ h⟩) hr
theorem OA(i j:Nat){o u:Oper}{r2:List Nat}(hp:GU l r=none)(hl:r.filter (KV l r)=[i,j])(ho:l[i]?=some o)(hu:l[j]?=some u)(hq:Jr o.op=false)(hq2:Jr u.op=false)(he:r.erase i=r')(he2:r.erase j=r2)
  (h:JD P l.toArray (XO (DR P l Q E0 r')) E0 [o] N m E) (h2:JD P l.toArray (XO (DR P l Q E0 r2)) E0 [u] N m E) (hr:r≠[]:=by decide):JT P l Q E0 r N m E :=
 QCQ hp (λk hk=>by
  rw[hl]at hk;simp only[List.mem_cons,List.not_mem_nil,or_false]at hk;rcases hk with rfl | rfl
  ·exact⟨o,ho,hq,he ▸ h⟩
  exact⟨u,hu,hq2,he2 ▸ h2⟩) hr
theorem vY{id:Nat}{bs0:List (Nat×Obj)}(hb0:bs0.Sublist bs)(hm:P.follows .mixedOrders=true)(hB:Bw l=true)(hr:List.range' 0 l.length=r)(h:JT P l (XO (Q .normal)) ⟨w0,F0,bs0,G⟩ r N m ⟨w0,F0,bs,G⟩):J P (.region id l.toArray true) Q N m ⟨w0,F0,bs,G⟩:=λa w ha hw=>by
 subst hr;refine Nn hm hB ((hw.imp hb0 λ_ h=>h).drew) ?_;have:=h (λ_ h=>h.imp hb0 λ_ h=>h) a _ ha hw.drew;simpa using this
theorem BV(h:Fin Q .normal N m E):JT P l (XO (Q .normal)) E0 [] N m E:=λ_=>h
end
end
end
def PF(a:Rat×Rat)(n:Int):Rat×Rat:=(if(decide (n>0)&&(decide (n%2=0)&&(decide (EF a.1.num<0)&&decide (EF a.2.num>0))))=true then 0 else(YK (a.1^n.toNat) [a.2^n.toNat]).1,(YK (a.1^n.toNat) [a.2^n.toNat]).2)
theorem qi{x:Sp}{a:Rat×Rat}{n:Int}(hF:Fits F w)(h:Zp F x a)(hn:0<=n/\n<=12)(hz:Jn a.1<=1000000/\Jn a.2<=1000000):Wy prog 177 [x.v,.int .i64 n] w F (PF a n):=by
 obtain⟨z1,z2⟩:=hz;have p1:=S6 a.1 n.toNat;have p2:=S6 a.2 n.toNat;have m1:n.toNat*Jn a.1<=12*1000000:=Nat.mul_le_mul O z1;have m2:n.toNat*Jn a.2<=12*1000000:=Nat.mul_le_mul O z2;dsimp only[Sp.v];refine QU.intro (G:=λF=>Zp F x a) func177 rfl wy rfl rfl hF (λF' hF'=>h.le hF')<|QG<|QB ?_
 refine JE I (vs:=[_,_,_,_,_,_,_,_]) I (λb2=>?_);refine Qg VI (λb4=>?_);refine QE<|QD ?_
 refine Fb (ι:=Nat×Sp) [(1,_),(2,_),(4,_)] (λi=>[(5,.pointer (some ⟨i.1,0,none⟩))]) (λi=>[(i.1,.cells [.int .i64 i.2.lo.n.s,.slice i.2.lo.n.q i.2.lo.n.n i.2.lo.n.cap,.int .i64 i.2.lo.d.s,.slice i.2.lo.d.q i.2.lo.d.n i.2.lo.d.cap,.int .i64 i.2.hi.n.s,.slice i.2.hi.n.q i.2.hi.n.n i.2.hi.n.cap,.int .i64 i.2.hi.d.s,.slice i.2.hi.d.q i.2.hi.d.n i.2.hi.d.cap].toArray 229 (0,0)),(b4,.cells [.int .i64 0,.slice none 0 0,.int .i64 0,.slice none 0 0,.int .i64 0,.slice none 0 0,.int .i64 0,.slice none 0 0].toArray 229 (0,0)),(b2,.cells [.int .i64 x.lo.n.s,.slice x.lo.n.q x.lo.n.n x.lo.n.cap,.int .i64 x.lo.d.s,.slice x.lo.d.q x.lo.d.n x.lo.d.cap,.int .i64 x.hi.n.s,.slice x.hi.n.q x.hi.n.n x.hi.n.cap,.int .i64 x.hi.d.s,.slice x.hi.d.q x.hi.d.n x.hi.d.cap].toArray 229 (0,0))]) (λi F=>Zp F i.2 (YK (a.1^n.toNat) [a.2^n.toNat])) wU ?_ ?_
 ·refine vY (r:=[0,1,2,3,4,5,6,7,8,9,10,11]) tC mixed wm rfl<|NY 0 wm rfl rfl<|QL (QH I YI Ql)<|Z1<|NY 1 wm rfl rfl<|QL (wJ I Ql .u1)<|Z1<|NY 2 wm rfl rfl<|QL (QC I)<|Z1<|NY 4 wm rfl rfl<|QL (QH I YZ Ql)<|Z1<|NY 5 wm rfl rfl<|QL (wL I Ql .u1)<|Z1<|NY 6 wm rfl rfl<|QL (QC I)<|Z1 ?_
  refine OA 3 10 wm wm rfl rfl rfl rfl rfl rfl ?_ ?_
  ·refine Qc I (λw F hF ⟨⟨h1,h2⟩,⟨h3,h4⟩⟩=>Pe hF ⟨by assumption,by assumption⟩ (hn.1) O O) (λx9=>?_);refine Z1 ?_;refine OA 7 10 wm wm rfl rfl rfl rfl rfl rfl ?_ ?_
   ·refine Qc I (λw F hF ⟨⟨⟨h1,h2⟩,⟨h3,h4⟩⟩,⟨h9,h9_⟩⟩=>Pe hF ⟨by assumption,by assumption⟩ (hn.1) O O) (λx13=>?_);refine Z1 ?_;refine OA 8 10 wm wm rfl rfl rfl rfl rfl rfl ?_ ?_
    ·refine Jd I (JU X4) Ql KM I I (λb14=>?_) (λw h=>h.imp tC λF h=>h.1.1);refine Z1 ?_;refine OA 9 10 wm wm rfl rfl rfl rfl rfl rfl ?_ ?_
     ·refine Qc I (λw F hF ⟨⟨⟨⟨⟨h1,h2⟩,⟨h3,h4⟩⟩,⟨h9,h9_⟩⟩,⟨h13,h13_⟩⟩,hs14⟩=>Ku hF (⟨h9,h9_⟩) (ps:=[(x13,a.2^n.toNat)]) (Qy.of (n:=1) (sz:=4) hs14 rfl) (λp hp=>by simp only[List.mem_singleton]at hp;subst hp;exact⟨h13,h13_⟩) I O (⟨O,λp hp=>by simp only[List.mem_singleton]at hp;subst hp;show Jn (a.2^n.toNat)<=50000000;omega⟩)) (λx15=>?_);refine Z1<|K7 10 wm wm rfl rfl rfl ?_
      refine Hd VI (λb5=>?_);refine Z1<|K7 11 wm wm rfl rfl rfl<|Ji (vs:=[_,_,_,_,_,_,_,_]) I I I XM I .here tC (λ_ h=>h.1.1.1.1) .h8 wZ<|Z1<|BV ?_
      exact Xj ((b5,x15)) wV QGJ λF h9=>⟨⟨⟨h9.1.1.1.1.1.1,h9.1.1.1.1.1.2⟩,⟨h9.1.1.1.1.2.1,h9.1.1.1.1.2.2⟩⟩,⟨⟨h9.2.1.1,h9.2.1.2⟩,⟨h9.2.2.1,h9.2.2.2⟩⟩⟩
     refine Hd VI (λb5=>?_);refine Z1<|K7 9 wm wm rfl rfl rfl ?_
     refine Qc I (λw F hF ⟨⟨⟨⟨⟨h1,h2⟩,⟨h3,h4⟩⟩,⟨h9,h9_⟩⟩,⟨h13,h13_⟩⟩,hs14⟩=>Ku hF (⟨h9,h9_⟩) (ps:=[(x13,a.2^n.toNat)]) (Qy.of (n:=1) (sz:=4) hs14 rfl) (λp hp=>by simp only[List.mem_singleton]at hp;subst hp;exact⟨h13,h13_⟩) I O (⟨O,λp hp=>by simp only[List.mem_singleton]at hp;subst hp;show Jn (a.2^n.toNat)<=50000000;omega⟩)) (λx15=>?_);refine Z1<|K7 11 wm wm rfl rfl rfl<|Ji (vs:=[_,_,_,_,_,_,_,_]) I I I XM I .here tC (λ_ h=>h.1.1.1.1) .h8 wZ<|Z1<|BV ?_
     exact Xj ((b5,x15)) wV QGJ λF h9=>⟨⟨⟨h9.1.1.1.1.1.1,h9.1.1.1.1.1.2⟩,⟨h9.1.1.1.1.2.1,h9.1.1.1.1.2.2⟩⟩,⟨⟨h9.2.1.1,h9.2.1.2⟩,⟨h9.2.2.1,h9.2.2.2⟩⟩⟩
    refine Hd VI (λb5=>?_);refine Z1<|K7 8 wm wm rfl rfl rfl ?_
    refine Jd I (JU X4) Ql KM I I (λb14=>?_) (λw h=>h.imp (.cons _ tC) λF h=>h.1.1);refine Z1<|K7 9 wm wm rfl rfl rfl ?_
    refine Qc I (λw F hF ⟨⟨⟨⟨⟨h1,h2⟩,⟨h3,h4⟩⟩,⟨h9,h9_⟩⟩,⟨h13,h13_⟩⟩,hs14⟩=>Ku hF (⟨h9,h9_⟩) (ps:=[(x13,a.2^n.toNat)]) (Qy.of (n:=1) (sz:=4) hs14 rfl) (λp hp=>by simp only[List.mem_singleton]at hp;subst hp;exact⟨h13,h13_⟩) I O (⟨O,λp hp=>by simp only[List.mem_singleton]at hp;subst hp;show Jn (a.2^n.toNat)<=50000000;omega⟩)) (λx15=>?_);refine Z1<|K7 11 wm wm rfl rfl rfl<|Ji (vs:=[_,_,_,_,_,_,_,_]) I I I XM I .here tC (λ_ h=>h.1.1.1.1) .h8 wZ<|Z1<|BV ?_
    exact Xj ((b5,x15)) wV QGJ λF h9=>⟨⟨⟨h9.1.1.1.1.1.1,h9.1.1.1.1.1.2⟩,⟨h9.1.1.1.1.2.1,h9.1.1.1.1.2.2⟩⟩,⟨⟨h9.2.1.1,h9.2.1.2⟩,⟨h9.2.2.1,h9.2.2.2⟩⟩⟩
   refine Hd VI (λb5=>?_);refine Z1<|K7 7 wm wm rfl rfl rfl ?_
   refine Qc I (λw F hF ⟨⟨⟨h1,h2⟩,⟨h3,h4⟩⟩,⟨h9,h9_⟩⟩=>Pe hF ⟨by assumption,by assumption⟩ (hn.1) O O) (λx13=>?_);refine Z1<|K7 8 wm wm rfl rfl rfl ?_
   refine Jd I (JU X4) Ql KM I I (λb14=>?_) (λw h=>h.imp (.cons _ tC) λF h=>h.1.1);refine Z1<|K7 9 wm wm rfl rfl rfl ?_
   refine Qc I (λw F hF ⟨⟨⟨⟨⟨h1,h2⟩,⟨h3,h4⟩⟩,⟨h9,h9_⟩⟩,⟨h13,h13_⟩⟩,hs14⟩=>Ku hF (⟨h9,h9_⟩) (ps:=[(x13,a.2^n.toNat)]) (Qy.of (n:=1) (sz:=4) hs14 rfl) (λp hp=>by simp only[List.mem_singleton]at hp;subst hp;exact⟨h13,h13_⟩) I O (⟨O,λp hp=>by simp only[List.mem_singleton]at hp;subst hp;show Jn (a.2^n.toNat)<=50000000;omega⟩)) (λx15=>?_);refine Z1<|K7 11 wm wm rfl rfl rfl<|Ji (vs:=[_,_,_,_,_,_,_,_]) I I I XM I .here tC (λ_ h=>h.1.1.1.1) .h8 wZ<|Z1<|BV ?_
   exact Xj ((b5,x15)) wV QGJ λF h9=>⟨⟨⟨h9.1.1.1.1.1.1,h9.1.1.1.1.1.2⟩,⟨h9.1.1.1.1.2.1,h9.1.1.1.1.2.2⟩⟩,⟨⟨h9.2.1.1,h9.2.1.2⟩,⟨h9.2.2.1,h9.2.2.2⟩⟩⟩
  refine Hd VI (λb5=>?_);refine Z1<|K7 3 wm wm rfl rfl rfl ?_
  refine Qc I (λw F hF ⟨⟨h1,h2⟩,⟨h3,h4⟩⟩=>Pe hF ⟨by assumption,by assumption⟩ (hn.1) O O) (λx9=>?_);refine Z1<|K7 7 wm wm rfl rfl rfl ?_
  refine Qc I (λw F hF ⟨⟨⟨h1,h2⟩,⟨h3,h4⟩⟩,⟨h9,h9_⟩⟩=>Pe hF ⟨by assumption,by assumption⟩ (hn.1) O O) (λx13=>?_);refine Z1<|K7 8 wm wm rfl rfl rfl ?_
  refine Jd I (JU X4) Ql KM I I (λb14=>?_) (λw h=>h.imp (.cons _ tC) λF h=>h.1.1);refine Z1<|K7 9 wm wm rfl rfl rfl ?_
  refine Qc I (λw F hF ⟨⟨⟨⟨⟨h1,h2⟩,⟨h3,h4⟩⟩,⟨h9,h9_⟩⟩,⟨h13,h13_⟩⟩,hs14⟩=>Ku hF (⟨h9,h9_⟩) (ps:=[(x13,a.2^n.toNat)]) (Qy.of (n:=1) (sz:=4) hs14 rfl) (λp hp=>by simp only[List.mem_singleton]at hp;subst hp;exact⟨h13,h13_⟩) I O (⟨O,λp hp=>by simp only[List.mem_singleton]at hp;subst hp;show Jn (a.2^n.toNat)<=50000000;omega⟩)) (λx15=>?_);refine Z1<|K7 11 wm wm rfl rfl rfl<|Ji (vs:=[_,_,_,_,_,_,_,_]) I I I XM I .here tC (λ_ h=>h.1.1.1.1) .h8 wZ<|Z1<|BV ?_
  exact Xj ((b5,x15)) wV QGJ λF h9=>⟨⟨⟨h9.1.1.1.1.1.1,h9.1.1.1.1.1.2⟩,⟨h9.1.1.1.1.2.1,h9.1.1.1.1.2.2⟩⟩,⟨⟨h9.2.1.1,h9.2.1.2⟩,⟨h9.2.2.1,h9.2.2.2⟩⟩⟩
 intro i;simp only[List.cons_append,List.nil_append];refine QG ?_;refine X8 [(4,_),(5,_)] [(34,.bool ((decide (n>0)&&(decide (n%2=0)&&(decide (EF a.1.num<0)&&decide (EF a.2.num>0))))))] wT ?_ ?_
 ·refine wA 4 I ?_;refine Qe (t:=18) rfl (λhb18=>?_) λhb18=>?_
  ·refine wB 3 I<|QA (KW I I O O)<|wB 4 I ?_
   refine Qe (t:=23) rfl (λhb23=>?_) λhb23=>?_
   ·refine QK I I<|QA (QH I YI Ql)<|QK I I<|QA (wJ I Ql .u2)<|QK I I ?_
    refine QJ I (λw F hF ⟨⟨⟨h1,h2⟩,⟨h3,h4⟩⟩,⟨⟨k1,k2⟩,⟨k3,k4⟩⟩⟩=>En hF ⟨by assumption,by assumption⟩) (λ_=>?_);refine wB 4 I ?_;refine Qe (t:=29) rfl (λhb29=>?_) λhb29=>?_
    ·refine QK I I<|QA (QH I YZ Ql)<|QK I I<|QA (wL I Ql .u2)<|QK I I ?_
     refine QJ I (λw F hF ⟨⟨⟨⟨h1,h2⟩,⟨h3,h4⟩⟩,⟨⟨k1,k2⟩,⟨k3,k4⟩⟩⟩,_⟩=>En hF ⟨by assumption,by assumption⟩) (λ_=>?_);refine wB 4 I ?_;exact JB ⟨rfl,rfl,(congrArg (λb=>some (Value.bool b)) (by rw[Bool.eq_iff_iff];simp_all<;>(intros;omega))),trivial⟩ QGJ λ_ h=>h.1.1
    refine wB 6 I ?_;exact JB ⟨rfl,rfl,(congrArg (λb=>some (Value.bool b)) (by rw[Bool.eq_iff_iff];simp_all<;>(intros;omega))),trivial⟩ QGJ tA
   refine wB 12 I ?_;exact JB ⟨rfl,rfl,(congrArg (λb=>some (Value.bool b)) (by rw[Bool.eq_iff_iff];simp_all<;>(intros;omega))),trivial⟩ QGJ w9
  refine wB 17 I ?_;exact JB ⟨rfl,rfl,(congrArg (λb=>some (Value.bool b)) (by rw[Bool.eq_iff_iff];simp_all<;>(intros;omega))),trivial⟩ QGJ w9
 simp only[List.cons_append,List.nil_append];refine QP I (λhc=>?_) λhc=>?_
 ·refine QB ?_;refine QJ I (λ_ _ f k=>f_g f O O) (λx35=>?_);refine QA (QH I YI Ql)<|QZ (vs:=[_,_,_,_]) I I I Ql I .here .h4 wV<|QF4<|QGi<|QA (wK I XM .here)<|QZ (vs:=[_,_,_,_,_,_,_,_]) I I I XM I .u1 .h8 wZ<|QF4<|QT ?_
  exact QO (⟨x35,i.2.hi⟩) I (.Jv (c:=[_,_,_,_,_,_,_,_]) I XM .u1 .nil) (rfl) λF h9=>by have e:(PF a n)=(0,(YK (a.1^n.toNat) [a.2^n.toNat]).2):=(by unfold PF;rw[if_pos hc]);rw[e];exact⟨⟨h9.2.1,h9.2.2⟩,⟨h9.1.2.2.1,h9.1.2.2.2⟩⟩
 refine QHC 4 I<|QA (wK I XM .here)<|QZ (vs:=[_,_,_,_,_,_,_,_]) I I I XM I .u1 .h8 wZ<|QF4<|QT ?_
 exact QO (i.2) rfl (.Jv (c:=[_,_,_,_,_,_,_,_]) I XM .u1 .nil) (rfl) λF h9=>by have e:(PF a n)=(YK (a.1^n.toNat) [a.2^n.toNat]):=(by unfold PF;rw[if_neg (by rw[hc];decide)]);rw[e];exact⟨⟨h9.2.1.1,h9.2.1.2⟩,⟨h9.2.2.1,h9.2.2.2⟩⟩
end Go.Proofs.YtpmehagnedbkhaaGreatDoor
