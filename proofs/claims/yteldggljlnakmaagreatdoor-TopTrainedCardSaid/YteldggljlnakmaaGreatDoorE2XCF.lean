/- Steps of the proof of the theorem in the last file. -/
import Derived.Test.YteldggljlnakmaaGreatDoorE1XCF
set_option linter.all false
set_option maxHeartbeats 4000000
open Go.Proofs.Tryz
namespace Go.Proofs.YteldggljlnakmaaGreatDoor
variable{b c i k:Nat}{F:Gs}{w:World}{us:List Xe}{ts:List FU}{q:Option Addr}{cs:List Value}
open Go.RowKit Ig
theorem US:Zd prog 103=some (false,1):=wu
theorem gW:Re prog 103 3 3=true:=wu
theorem QEQ:Sw prog 3 Qs:=Sw.int wu
theorem QHA:zvB prog 3=some (.int .i64 0):=wu
theorem QFQ:Zd prog 150=some (false,1):=wu
def fnB(P:Program)(T:TypeId):Bool:=match P.underlying T with | some (.func ..)=>true | _=>false
section
variable[Dr][df:Df]{P:Program}{Q:Exit->Act->World->Prop}{N:Nat}{m:Sl}{E0:Env}{ops:Array Oper}{l:List Oper}{w0:World}{F0:Gs}{bs:List (Nat×Obj)}{G:Gs->Prop}{ty:TypeId}{d:Nat}{pos:String}{aft:Array Edge}{b:Nat}{f:Obj->List (Nat×Obj)}
theorem GJ{κ:Type}(K:κ->Value){T:TypeId}(k:∀b,JD P ops Q E0 l N ((d,.map (some b))::m) ⟨w0,F0,(b,ZA K [])::bs,G⟩)(hd:Jq N (some d)=true:=by rfl):
  JD P ops Q E0 (⟨some d,.makeMap T none,ty,pos,aft,none⟩::l) N m ⟨w0,F0,bs,G⟩:=λhE a w ha hw=>by
 have hS:=hw.alloc (.map #[] 0) (λc fr e=>by cases e);have sub:∀w' b,St ⟨w0,F0,(b,ZA K [])::bs,G⟩ w'->St E0 w':=λw' b h=>hE w' (h.imp (List.sublist_cons_self _ _) λ_ h=>h);have hrun:(execOp a.eval ⟨some d,.makeMap T none,ty,pos,aft,none⟩).run P w = .ok (.value (.map (some w.heap.size))) (w.alloc (.map #[] 0)):=by
  simp[execOp,Instr.makeMap]
 refine .inr ⟨rfl,?_⟩;rw[if_pos (by simp[Region.wanted])];exact upon_value hrun ⟨sub _ _ hS,k _ (λw' h=>sub w' _ h) _ _ (ha.put hd _) hS⟩
theorem Du{t e:TypeId}{sz bytes n:Nat}{z:List Value}{g:Bool}{X Y:Operand}{kl:IntKind}(hx:ev m X=some (.int kl (n:Int)))(hy:ev m Y=some (.int kl (n:Int)))(ht:Ga P t=some e)(hs:Zd P e=some (g,sz))(hz:J1 P e=some z)(hzl:z.length=sz)(hby:ZM P e=some bytes)(h63:(n:Int)<=9223372036854775807)(h48:n*bytes<=281474976710656)
  (k:∀b,JD P ops Q E0 l N ((d,.slice (some ⟨b,0,none⟩) n n)::m) ⟨w0,F0,(b,.cells (JL z n).toArray e (0,0))::bs,G⟩) (hu:Vy e=true:=by rfl) (hd:Jq N (some d)=true:=by rfl) :
  JD P ops Q E0 (⟨some d,.makeSlice t X Y,ty,pos,aft,none⟩::l) N m ⟨w0,F0,bs,G⟩:=λhE a w ha hw=>by
 have hS:=hw.alloc (.cells (JL z n).toArray e (0,0)) (XR hu);have sub:∀w' b,St ⟨w0,F0,(b,.cells (JL z n).toArray e (0,0))::bs,G⟩ w'->St E0 w':=λw' b h=>hE w' (h.imp (List.sublist_cons_self _ _) λ_ h=>h);refine .inr ⟨rfl,?_⟩;rw[if_pos (by simp[Region.wanted])];exact upon_value (by
  simp only[execOp,ha.ev hx,ha.ev hy,Sem.run_bind,FY ht hs hz hzl hby h63 h48,Result.andThen_ok,Sem.run_pure]) ⟨sub _ _ hS,k _ (λw' h=>sub w' _ h) _ _ (ha.put hd _) hS⟩
theorem QFb{T yT:TypeId}{x y:Operand}{Y:World->Prop}(hx:ev m x=some .nilFunc)(hy:ev m y=some .nilFunc)(hT:fnB P T=true):Qt P N m Y (.binOp .neq T x y yT) ty (.bool false):=λa w _ _ _ _ ha _=>by
 unfold fnB at hT;split at hT
 ·rename_i e;have h1:(Op.equalIn (9999+1) T .nilFunc .nilFunc).run P w = .ok true w:=by
   unfold Op.equalIn;simp[run_underlying e]
  have h2:(binOp .neq T .nilFunc .nilFunc).run P w = .ok (.bool false) w:=by
   simp only[binOp];simp[Op.equal,Op.maxDepth,h1]
  simp[execOp,ha.ev hx,ha.ev hy,eqGuard,h2]
 cases hT
end
def Mq(us:List Xe)(k:Int):Nat:=(BW us k+1).toNat
def ug(N:Nat)(us:List Xe)(s:Int):List Tm:=if 0<=BW us s then[(1,uV (N+1) (Mq us s))]else if s=0 then[(1,uV (N+1) 0)]else[]
def vX(p:ZL):List Tm:=(List.range p.sh.toNat).map λs:Nat=>(1,uV (p.ul.length+1) (Mq p.ul (s:Int)))
def yr(p:ZL)(u:Xe):Tm:=(Jc (el u.fl 0).r*Jc (el u.fl 1).r,uV (p.ul.length+1) (Mq p.ul (el u.fl 0).k))
def rtM(p:ZL):List Tm:=p.ul.map (yr p)
def QDq{p:ZL}{s:Nat}(h:s<p.sh.toNat):el (vX p) s=(1,uV (p.ul.length+1) (Mq p.ul (s:Int))):=by
 rw[J8 (by simpa[vX]using h)];simp[vX]
def vc{p:ZL}(h:k<p.ul.length):el (rtM p) k=yr p (el p.ul k):=by
 rw[J8 (by simpa[rtM]using h),J8 h];simp[rtM]
def qp(us:List Xe)(k:Int):Mq us k<=us.length:=by
 have:=QBN us k;unfold Mq;omega
theorem RE.fresh{p:ZL}(h:RE p){i:Nat}(hi:i<p.ul.length):YteldggljlnakmaaGreatDoor.BW (p.ul.take i) (el p.ul i).ou<0:=by
 have ho:=h.ou hi;refine RR.2 ?_;have h1:=Cm (k:=(el p.ul i).ou) hi;rw[if_pos rfl]at h1;have h2:=QCL (us:=p.ul) (i:=i+1) (k:=(el p.ul i).ou);have h3:=h.pD ho.1 ho.2;omega
def QCy{p:ZL}(h:RE p){N i:Nat}(hi:i<p.ul.length){s:Int}:ug N (p.ul.take (i+1)) s=if(el p.ul i).ou=s then[(1,uV (N+1) (i+1))]else ug N (p.ul.take i) s:=by
 have ho:=h.ou hi;unfold ug Mq;rw[cR hi];by_cases e:(el p.ul i).ou=s
 ·have hf:=h.fresh hi;rw[e]at hf;rw[if_pos e,if_neg (show ¬YteldggljlnakmaaGreatDoor.BW (p.ul.take i) s>=0 by omega),if_pos e,if_pos (Int.natCast_nonneg i)];congr 1
 rw[if_neg e];by_cases g:YteldggljlnakmaaGreatDoor.BW (p.ul.take i) s>=0
 ·rw[if_pos g,if_pos g,if_neg e]
 rw[if_neg g,if_neg (show ¬(0:Int)<=-1 by decide),if_neg e,if_neg g]
theorem QD6{p:ZL}(h:RE p){N:Nat}{s:Int}(h0:0<=s)(h1:s<p.sh):ug N p.ul s=[(1,uV (N+1) (Mq p.ul s))]:=by
 unfold ug;by_cases g:0<=YteldggljlnakmaaGreatDoor.BW p.ul s
 ·rw[if_pos g]
 have h2:=h.QJR h1 O;have h3:=dt (us:=p.ul) (k:=s) O;rw[if_neg g,if_pos O];unfold Mq;rw[h3];rfl
structure QKf(p:ZL) where
 i:Nat
 xs:List BB
 le:i<=p.ul.length
 xl:xs.length=p.sh.toNat
def ShP(F:Gs)(p:ZL)(i:Nat)(xs:List BB):Prop:=∀s,s<p.sh.toNat->Jz F (el xs s).1 (el xs s).2 (ug p.ul.length (p.ul.take i) (s:Int))
def Jz.QKD(F:Gs):Jz F yv.1 yv.2 []:=⟨Qu.nil F none 5,(λ_ h=>by cases h),rfl,Nat.le_refl _,rfl⟩
def ShP.start{p:ZL}{c:BB}(hs:1<=p.sh)(h:Jz F c.1 c.2 [(1,uV (p.ul.length+1) 0)]):ShP F p 0 ((List.replicate p.sh.toNat yv).set 0 c):=λs hs2=>by
 rw[Tj tA];have e:ug p.ul.length (p.ul.take 0) (s:Int)=if s=0 then[(1,uV (p.ul.length+1) 0)]else[]:=by
  unfold ug;rw[List.take_zero,if_neg (show ¬(0:Int)<=YteldggljlnakmaaGreatDoor.BW [] (s:Int)from(by decide:¬(0:Int)<=-1))];by_cases g:s=0
  ·rw[if_pos g,if_pos O]
  rw[if_neg g,if_neg O]
 rw[e];by_cases g:s=0
 ·rw[if_pos g,if_pos g];exact h
 rw[if_neg g,if_neg g,J8 (by simpa using hs2),List.getElem_replicate];exact Jz.QKD F
def ShP.next{p:ZL}{xs:List BB}{c:BB}(hV:RE p)(hx:xs.length=p.sh.toNat)(h:ShP F p i xs)(hi:i<p.ul.length)(hc:Jz F c.1 c.2 [(1,uV (p.ul.length+1) (i+1))]):ShP F p (i+1) (xs.set (el p.ul i).ou.toNat c):=λs hs=>by
 have ho:=hV.ou hi;rw[Tj O,QCy hV hi];by_cases g:s=(el p.ul i).ou.toNat
 ·rw[if_pos g,if_pos O];exact hc
 rw[if_neg g,if_neg O];exact h s hs
structure QKe(p:ZL) where
 i:Nat
 ys:List BB
 le:i<=p.ul.length
 yl:ys.length=p.ul.length
def RtP(F:Gs)(p:ZL)(i:Nat)(ys:List BB):Prop:=∀k,k<i->Jz F (el ys k).1 (el ys k).2 [yr p (el p.ul k)]
theorem RtP.next{p:ZL}{ys:List BB}{c:BB}(hy:ys.length=p.ul.length)(h:RtP F p i ys)(hi:i<p.ul.length)(hc:Jz F c.1 c.2 [yr p (el p.ul i)]):RtP F p (i+1) (ys.set i c):=λk hk=>by
 rw[Tj O];by_cases g:k=i
 ·subst g;rw[if_pos rfl];exact hc
 rw[if_neg g];exact h k O
def ShP.at{p:ZL}{xs:List BB}(hV:RE p)(h:ShP F p i xs)(hi:i=p.ul.length){k:Int}(h0:0<=k)(h1:k<p.sh):Jz F (el xs k.toNat).1 (el xs k.toNat).2 [(1,uV (p.ul.length+1) (Mq p.ul k))]:=by
 have h2:=h k.toNat O;rw[hi,List.take_length,show((k.toNat:Nat):Int)=k by omega,QD6 hV h0 h1]at h2;exact h2
structure RdG where
 b:Nat
 st:Sr
 bs:Nat
 br:Nat
 bm:Nat
 xs:List BB
 ys:List BB
structure PlT(p:ZL):Prop where
 v:RE p
 kd:∀u∈p.ul,u.kd=Vj
 k0:∀u∈p.ul,(el u.fl 1).k=0
 z:∀u∈p.ul,∀f∈u.fl,XH (Jc f.r)<=900
theorem PlT.two{p:ZL}(h:PlT p){u:Xe}(hu:u∈p.ul):u.fl.length=2/\u.cl=[]:=(h.v.us u hu).two (h.kd u hu)
def PlT.nI{p:ZL}(h:PlT p):Yq p.ul=p.ul.length:=by
 unfold Yq;rw[List.countP_eq_length.2 λu hu=>by unfold P8;rw[h.kd u hu];decide]
theorem PlT.ord{p:ZL}(h:PlT p):X9 p.ul=D6 p.ul.length:=kU λu hu=>⟨uj (h.v.us u hu) (h.kd u hu) (h.k0 u hu),(h.v.us u hu).ou.1⟩
theorem QH1{p:ZL}(h:PlT p){u:Xe}(hu:u∈p.ul):Mq p.ul (el u.fl 1).k=0:=by
 rw[h.k0 u hu];have h1:BW p.ul 0<0:=by
  refine RR.2 ?_;unfold E3;rw[List.countP_eq_zero];intro v hv;have:=(h.v.us v hv).ou;simp;omega
 unfold Mq;rw[dt h1];rfl
def QCB{n k:Nat}(h:k<n):el (D6 n) k=(k:Int):=by
 rw[J8 (by simpa[D6]using h)];simp[D6]
def cA(n:Nat):(D6 n).length=n:=by simp[D6]
theorem QKc.sm{p:ZL}(h:PlT p):(∀t∈vX p,SmT (p.ul.length+1) t)/\∀t∈rtM p,SmT (p.ul.length+1) t:=by
 have hN:p.ul.length<=24:=by rw[<-h.nI];exact h.v.nI
 have key:∀y k,XH y<=1990->SmT (p.ul.length+1) (y,uV (p.ul.length+1) (Mq p.ul k)):=λy k hy =>
  ⟨hy,p8 O,by show(uV _ _).sum<=12;rw[QDa (wm<|qp p.ul k)];decide,S6 _ _⟩
 constructor
 ·intro t ht;obtain⟨s,_,rfl⟩:=List.mem_map.1 ht;exact key 1 _ wy
 intro t ht;obtain⟨u,hu,rfl⟩:=List.mem_map.1 ht;have h2:=h.two hu;have z0:=h.z u hu _ (Ql (show 0<u.fl.length by omega));have z1:=h.z u hu _ (Ql (show 1<u.fl.length by omega));have z2:=Zg (Jc (el u.fl 0).r) (Jc (el u.fl 1).r);exact key _ _ O
theorem QD9{p:ZL}(hF:Fits F w)(hGl:JZ F)(hP:KO F p)(hL:qB p)(hT:PlT p):QQ prog 39 [p.v] w F (λ(c:RdG)=>.pointer (some ⟨c.b,0,none⟩))
  (λc F=>F c.b=some (#[Qs p.sh,.slice p.un.q p.un.n p.un.cap,.slice p.ot.q p.ot.n p.ot.cap,.int .i64 ((p.ul.length:Nat):Int),c.st.v,.slice (some ⟨c.bs,0,none⟩) p.sh.toNat p.sh.toNat,.slice (some ⟨c.br,0,none⟩) p.ul.length p.ul.length,.map (some c.bm)],105)/\pS F (some ⟨c.bs,0,none⟩) p.sh.toNat c.xs (vX p)/\pS F (some ⟨c.br,0,none⟩) p.ul.length c.ys (rtM p)):=by
 have LU:=hP.MK;have hun:=hL.un;have hV:=hT.v;have hsh:=hV.sh;have hN:p.ul.length<=24:=by rw[<-hT.nI];exact hV.nI
 have hord:=hT.ord;have hnl:=cA p.ul.length;have hol:(X9 p.ul).length=p.ul.length:=by rw[hord];exact hnl
 refine QQ.go (G:=λF=>JZ F/\KO F p) func39 hF ⟨hGl,hP⟩ ?_;refine QKt<|Q8 I (vs:=[_,_,_]) I λb1=>wR I<|Jf (b:=b1) .here ?_
 refine Ba (ι:=Nat×Nat×Nat×Sr) [(1,_)] (λy=>[(3,.pointer (some ⟨y.1,0,none⟩))]) (λy=>(y.1,.cells [Qs p.sh,.slice p.un.q p.un.n p.un.cap,.slice p.ot.q p.ot.n p.ot.cap,.int .i64 ((p.ul.length:Nat):Int),y.2.2.2.v,.slice (some ⟨y.2.1,0,none⟩) p.sh.toNat p.sh.toNat,.slice none 0 0,.map (some y.2.2.1)].toArray 105 (0,0))::(y.2.2.1,ZA Qs [])::(y.2.1,.cells ((List.replicate p.sh.toNat yv).map (λe:BB=>e.1.v)++[]).toArray 107 (0,0))::[]) (λy F=>True) wT ?_ ?_
 ·refine yZ (r:=[0,1,2,3,4,5,6,7,8,9,10,11]) QJ3 mixed wu rfl<|Y6 0 wu rfl rfl<|QI (JG (n:=1) (vs:=[Qs p.sh,.slice p.un.q p.un.n p.un.cap,.slice p.ot.q p.ot.n p.ot.cap]) ((0)*3) (λF h9=>(Qu.of (n:=1) (sz:=3) h9.2 I)) O rfl Zf I λj v hv=>by simpa using hv)<|XX<|Y6 1 wu rfl rfl<|QI (JG (n:=1) (vs:=[Qs p.sh,.slice p.un.q p.un.n p.un.cap,.slice p.ot.q p.ot.n p.ot.cap]) ((0)*3) (λF h9=>(Qu.of (n:=1) (sz:=3) h9.2 I)) O rfl Zf I λj v hv=>by simpa using hv)<|XX<|Y6 3 wu rfl rfl<|QI (JG (n:=1) (vs:=[Qs p.sh,.slice p.un.q p.un.n p.un.cap,.slice p.ot.q p.ot.n p.ot.cap]) ((0)*3) (λF h9=>(Qu.of (n:=1) (sz:=3) h9.2 I)) O rfl Zf I λj v hv=>by simpa using hv)<|XX<|Y6 5 wu rfl rfl<|QI (QH I WT QZ)<|XX<|Y6 6 wu rfl rfl<|QI (Qg (n:=1) ((0)*3+0) (λF h9=>(Qu.of (n:=1) (sz:=3) h9.2 I)) O rfl QZ I)<|XX ?_
  refine QE5 2 7 8 wu wu rfl rfl rfl rfl rfl rfl rfl rfl rfl ?_ ?_ ?_
  ·refine QV I (λ_ _ f k=>Nc f k.1.2 O) (λc22=>?_);rw[hT.nI];refine XX ?_;refine QE5 4 7 8 wu wu rfl rfl rfl rfl rfl rfl rfl rfl rfl ?_ ?_ ?_
   ·refine QV I (λ_ _ f k=>BZ f k.1.1.1 k.1.1.2 hun O (λu hu=>wm<|(hV.us u hu).ou) λu hu=>⟨(hV.us u hu).st,(hL.us _ hu).st⟩) (λc24=>XX ?_);refine IA 7 8 wu wu rfl rfl rfl rfl rfl rfl ?_ ?_
    ·refine Du (n:=p.sh.toNat) (bytes:=24) wN wN K3 Yr UK I Py O O (λb27=>?_);rw[BD];refine XX<|Kl 8 wu wu rfl rfl rfl<|GJ Qs λb28=>XX<|Y6 9 wu rfl rfl<|QI (Jr I MO UC (.cons (vs:=[_,_,_]) I I I .h3 (.cons (vs:=[_]) I I I (.skip (.skip (.skip .h1))) (.cons (vs:=[_]) I I I (.skip (.skip (.skip (.skip .h1)))) (.cons (vs:=[_]) I I I (.skip (.skip (.skip (.skip (.skip .h1))))) (.cons (vs:=[_]) I I I (.skip (.skip (.skip (.skip (.skip (.skip (.skip .h1))))))) .nil))))))<|XX<|Kl 10 wu wu rfl rfl rfl<|Ea I (vs:=[_,_,_,_,_,_,_,_]) I λb30=>XX<|Y6 11 wu rfl rfl<|QI (QE I)<|XX<|Wa ?_
     exact XG ((b30,b27,b28,c24.1)) wU QJ3 λF h9=>⟨⟨⟨h9.1.1.1.1,h9.1.1.1.2⟩,h9.1.1.2⟩,trivial⟩
    refine GJ Qs (λb28=>XX<|Kl 7 wu wu rfl rfl rfl<|Du (n:=p.sh.toNat) (bytes:=24) wN wN K3 Yr UK I Py O O λb27=>?_);rw[BD];refine XX<|Y6 9 wu rfl rfl<|QI (Jr I MO UC (.cons (vs:=[_,_,_]) I I I .h3 (.cons (vs:=[_]) I I I (.skip (.skip (.skip .h1))) (.cons (vs:=[_]) I I I (.skip (.skip (.skip (.skip .h1)))) (.cons (vs:=[_]) I I I (.skip (.skip (.skip (.skip (.skip .h1))))) (.cons (vs:=[_]) I I I (.skip (.skip (.skip (.skip (.skip (.skip (.skip .h1))))))) .nil))))))<|XX<|Kl 10 wu wu rfl rfl rfl<|Ea I (vs:=[_,_,_,_,_,_,_,_]) I λb30=>XX<|Y6 11 wu rfl rfl<|QI (QE I)<|XX<|Wa<|LR (.cons _ (.swap _ _ _)) ?_
    exact XG ((b30,b27,b28,c24.1)) wU QJ3 λF h9=>⟨⟨⟨h9.1.1.1.1,h9.1.1.1.2⟩,h9.1.1.2⟩,trivial⟩
   ·refine Du (n:=p.sh.toNat) (bytes:=24) wN wN K3 Yr UK I Py O O (λb27=>?_);rw[BD];refine XX ?_;refine IA 4 8 wu wu rfl rfl rfl rfl rfl rfl ?_ ?_
    ·refine QV I (λ_ _ f k=>BZ f k.1.1.1 k.1.1.2 hun O (λu hu=>wm<|(hV.us u hu).ou) λu hu=>⟨(hV.us u hu).st,(hL.us _ hu).st⟩) (λc24=>XX<|Kl 8 wu wu rfl rfl rfl<|GJ Qs λb28=>XX<|Y6 9 wu rfl rfl<|QI (Jr I MO UC (.cons (vs:=[_,_,_]) I I I .h3 (.cons (vs:=[_]) I I I (.skip (.skip (.skip .h1))) (.cons (vs:=[_]) I I I (.skip (.skip (.skip (.skip .h1)))) (.cons (vs:=[_]) I I I (.skip (.skip (.skip (.skip (.skip .h1))))) (.cons (vs:=[_]) I I I (.skip (.skip (.skip (.skip (.skip (.skip (.skip .h1))))))) .nil))))))<|XX<|Kl 10 wu wu rfl rfl rfl<|Ea I (vs:=[_,_,_,_,_,_,_,_]) I λb30=>XX<|Y6 11 wu rfl rfl<|QI (QE I)<|XX<|Wa ?_);exact XG ((b30,b27,b28,c24.1)) wU QJ3 λF h9=>⟨⟨⟨h9.1.1.1.1,h9.1.1.1.2⟩,h9.1.1.2⟩,trivial⟩
    refine GJ Qs (λb28=>XX<|Kl 4 wu wu rfl rfl rfl<|QV I (λ_ _ f k=>BZ f k.1.1.1 k.1.1.2 hun O (λu hu=>wm<|(hV.us u hu).ou) λu hu=>⟨(hV.us u hu).st,(hL.us _ hu).st⟩) λc24=>XX<|Y6 9 wu rfl rfl<|QI (Jr I MO UC (.cons (vs:=[_,_,_]) I I I .h3 (.cons (vs:=[_]) I I I (.skip (.skip (.skip .h1))) (.cons (vs:=[_]) I I I (.skip (.skip (.skip (.skip .h1)))) (.cons (vs:=[_]) I I I (.skip (.skip (.skip (.skip (.skip .h1))))) (.cons (vs:=[_]) I I I (.skip (.skip (.skip (.skip (.skip (.skip (.skip .h1))))))) .nil))))))<|XX<|Kl 10 wu wu rfl rfl rfl<|Ea I (vs:=[_,_,_,_,_,_,_,_]) I λb30=>XX<|Y6 11 wu rfl rfl<|QI (QE I)<|XX<|Wa ?_);exact XG ((b30,b27,b28,c24.1)) wU QJ3 λF h9=>⟨⟨⟨h9.1.1.1.1,h9.1.1.1.2⟩,h9.1.1.2⟩,trivial⟩
   refine GJ Qs (λb28=>XX ?_);refine IA 4 7 wu wu rfl rfl rfl rfl rfl rfl ?_ ?_
   ·refine QV I (λ_ _ f k=>BZ f k.1.1.1 k.1.1.2 hun O (λu hu=>wm<|(hV.us u hu).ou) λu hu=>⟨(hV.us u hu).st,(hL.us _ hu).st⟩) (λc24=>XX<|Kl 7 wu wu rfl rfl rfl<|Du (n:=p.sh.toNat) (bytes:=24) wN wN K3 Yr UK I Py O O λb27=>?_);rw[BD];refine XX<|Y6 9 wu rfl rfl<|QI (Jr I MO UC (.cons (vs:=[_,_,_]) I I I .h3 (.cons (vs:=[_]) I I I (.skip (.skip (.skip .h1))) (.cons (vs:=[_]) I I I (.skip (.skip (.skip (.skip .h1)))) (.cons (vs:=[_]) I I I (.skip (.skip (.skip (.skip (.skip .h1))))) (.cons (vs:=[_]) I I I (.skip (.skip (.skip (.skip (.skip (.skip (.skip .h1))))))) .nil))))))<|XX<|Kl 10 wu wu rfl rfl rfl<|Ea I (vs:=[_,_,_,_,_,_,_,_]) I λb30=>XX<|Y6 11 wu rfl rfl<|QI (QE I)<|XX<|Wa<|LR (.cons _ (.swap _ _ _)) ?_
    exact XG ((b30,b27,b28,c24.1)) wU QJ3 λF h9=>⟨⟨⟨h9.1.1.1.1,h9.1.1.1.2⟩,h9.1.1.2⟩,trivial⟩
   refine Du (n:=p.sh.toNat) (bytes:=24) wN wN K3 Yr UK I Py O O (λb27=>?_);rw[BD];refine XX<|Kl 4 wu wu rfl rfl rfl<|QV I (λ_ _ f k=>BZ f k.1.1.1 k.1.1.2 hun O (λu hu=>wm<|(hV.us u hu).ou) λu hu=>⟨(hV.us u hu).st,(hL.us _ hu).st⟩) λc24=>XX<|Y6 9 wu rfl rfl<|QI (Jr I MO UC (.cons (vs:=[_,_,_]) I I I .h3 (.cons (vs:=[_]) I I I (.skip (.skip (.skip .h1))) (.cons (vs:=[_]) I I I (.skip (.skip (.skip (.skip .h1)))) (.cons (vs:=[_]) I I I (.skip (.skip (.skip (.skip (.skip .h1))))) (.cons (vs:=[_]) I I I (.skip (.skip (.skip (.skip (.skip (.skip (.skip .h1))))))) .nil))))))<|XX<|Kl 10 wu wu rfl rfl rfl<|Ea I (vs:=[_,_,_,_,_,_,_,_]) I λb30=>XX<|Y6 11 wu rfl rfl<|QI (QE I)<|XX<|Wa<|LR (.cons _ (.swap _ _ _)) ?_
   exact XG ((b30,b27,b28,c24.1)) wU QJ3 λF h9=>⟨⟨⟨h9.1.1.1.1,h9.1.1.1.2⟩,h9.1.1.2⟩,trivial⟩
  ·refine Du (n:=p.sh.toNat) (bytes:=24) wN wN K3 Yr UK I Py O O (λb27=>?_);rw[BD];refine XX ?_;refine IA 2 8 wu wu rfl rfl rfl rfl rfl rfl ?_ ?_
   ·refine QV I (λ_ _ f k=>Nc f k.1.2 O) (λc22=>?_);rw[hT.nI];refine XX ?_;refine IA 4 8 wu wu rfl rfl rfl rfl rfl rfl ?_ ?_
    ·refine QV I (λ_ _ f k=>BZ f k.1.1.1 k.1.1.2 hun O (λu hu=>wm<|(hV.us u hu).ou) λu hu=>⟨(hV.us u hu).st,(hL.us _ hu).st⟩) (λc24=>XX<|Kl 8 wu wu rfl rfl rfl<|GJ Qs λb28=>XX<|Y6 9 wu rfl rfl<|QI (Jr I MO UC (.cons (vs:=[_,_,_]) I I I .h3 (.cons (vs:=[_]) I I I (.skip (.skip (.skip .h1))) (.cons (vs:=[_]) I I I (.skip (.skip (.skip (.skip .h1)))) (.cons (vs:=[_]) I I I (.skip (.skip (.skip (.skip (.skip .h1))))) (.cons (vs:=[_]) I I I (.skip (.skip (.skip (.skip (.skip (.skip (.skip .h1))))))) .nil))))))<|XX<|Kl 10 wu wu rfl rfl rfl<|Ea I (vs:=[_,_,_,_,_,_,_,_]) I λb30=>XX<|Y6 11 wu rfl rfl<|QI (QE I)<|XX<|Wa ?_);exact XG ((b30,b27,b28,c24.1)) wU QJ3 λF h9=>⟨⟨⟨h9.1.1.1.1,h9.1.1.1.2⟩,h9.1.1.2⟩,trivial⟩
    refine GJ Qs (λb28=>XX<|Kl 4 wu wu rfl rfl rfl<|QV I (λ_ _ f k=>BZ f k.1.1.1 k.1.1.2 hun O (λu hu=>wm<|(hV.us u hu).ou) λu hu=>⟨(hV.us u hu).st,(hL.us _ hu).st⟩) λc24=>XX<|Y6 9 wu rfl rfl<|QI (Jr I MO UC (.cons (vs:=[_,_,_]) I I I .h3 (.cons (vs:=[_]) I I I (.skip (.skip (.skip .h1))) (.cons (vs:=[_]) I I I (.skip (.skip (.skip (.skip .h1)))) (.cons (vs:=[_]) I I I (.skip (.skip (.skip (.skip (.skip .h1))))) (.cons (vs:=[_]) I I I (.skip (.skip (.skip (.skip (.skip (.skip (.skip .h1))))))) .nil))))))<|XX<|Kl 10 wu wu rfl rfl rfl<|Ea I (vs:=[_,_,_,_,_,_,_,_]) I λb30=>XX<|Y6 11 wu rfl rfl<|QI (QE I)<|XX<|Wa ?_);exact XG ((b30,b27,b28,c24.1)) wU QJ3 λF h9=>⟨⟨⟨h9.1.1.1.1,h9.1.1.1.2⟩,h9.1.1.2⟩,trivial⟩
   refine GJ Qs (λb28=>XX<|Kl 2 wu wu rfl rfl rfl<|QV I (λ_ _ f k=>Nc f k.1.2 O) λc22=>?_);rw[hT.nI];refine XX<|Kl 4 wu wu rfl rfl rfl<|QV I (λ_ _ f k=>BZ f k.1.1.1 k.1.1.2 hun O (λu hu=>wm<|(hV.us u hu).ou) λu hu=>⟨(hV.us u hu).st,(hL.us _ hu).st⟩) λc24=>XX<|Y6 9 wu rfl rfl<|QI (Jr I MO UC (.cons (vs:=[_,_,_]) I I I .h3 (.cons (vs:=[_]) I I I (.skip (.skip (.skip .h1))) (.cons (vs:=[_]) I I I (.skip (.skip (.skip (.skip .h1)))) (.cons (vs:=[_]) I I I (.skip (.skip (.skip (.skip (.skip .h1))))) (.cons (vs:=[_]) I I I (.skip (.skip (.skip (.skip (.skip (.skip (.skip .h1))))))) .nil))))))<|XX<|Kl 10 wu wu rfl rfl rfl<|Ea I (vs:=[_,_,_,_,_,_,_,_]) I λb30=>XX<|Y6 11 wu rfl rfl<|QI (QE I)<|XX<|Wa ?_
   exact XG ((b30,b27,b28,c24.1)) wU QJ3 λF h9=>⟨⟨⟨h9.1.1.1.1,h9.1.1.1.2⟩,h9.1.1.2⟩,trivial⟩
  refine GJ Qs (λb28=>XX ?_);refine IA 2 7 wu wu rfl rfl rfl rfl rfl rfl ?_ ?_
  ·refine QV I (λ_ _ f k=>Nc f k.1.2 O) (λc22=>?_);rw[hT.nI];refine XX ?_;refine IA 4 7 wu wu rfl rfl rfl rfl rfl rfl ?_ ?_
   ·refine QV I (λ_ _ f k=>BZ f k.1.1.1 k.1.1.2 hun O (λu hu=>wm<|(hV.us u hu).ou) λu hu=>⟨(hV.us u hu).st,(hL.us _ hu).st⟩) (λc24=>XX<|Kl 7 wu wu rfl rfl rfl<|Du (n:=p.sh.toNat) (bytes:=24) wN wN K3 Yr UK I Py O O λb27=>?_);rw[BD];refine XX<|Y6 9 wu rfl rfl<|QI (Jr I MO UC (.cons (vs:=[_,_,_]) I I I .h3 (.cons (vs:=[_]) I I I (.skip (.skip (.skip .h1))) (.cons (vs:=[_]) I I I (.skip (.skip (.skip (.skip .h1)))) (.cons (vs:=[_]) I I I (.skip (.skip (.skip (.skip (.skip .h1))))) (.cons (vs:=[_]) I I I (.skip (.skip (.skip (.skip (.skip (.skip (.skip .h1))))))) .nil))))))<|XX<|Kl 10 wu wu rfl rfl rfl<|Ea I (vs:=[_,_,_,_,_,_,_,_]) I λb30=>XX<|Y6 11 wu rfl rfl<|QI (QE I)<|XX<|Wa<|LR (.cons _ (.swap _ _ _)) ?_
    exact XG ((b30,b27,b28,c24.1)) wU QJ3 λF h9=>⟨⟨⟨h9.1.1.1.1,h9.1.1.1.2⟩,h9.1.1.2⟩,trivial⟩
   refine Du (n:=p.sh.toNat) (bytes:=24) wN wN K3 Yr UK I Py O O (λb27=>?_);rw[BD];refine XX<|Kl 4 wu wu rfl rfl rfl<|QV I (λ_ _ f k=>BZ f k.1.1.1 k.1.1.2 hun O (λu hu=>wm<|(hV.us u hu).ou) λu hu=>⟨(hV.us u hu).st,(hL.us _ hu).st⟩) λc24=>XX<|Y6 9 wu rfl rfl<|QI (Jr I MO UC (.cons (vs:=[_,_,_]) I I I .h3 (.cons (vs:=[_]) I I I (.skip (.skip (.skip .h1))) (.cons (vs:=[_]) I I I (.skip (.skip (.skip (.skip .h1)))) (.cons (vs:=[_]) I I I (.skip (.skip (.skip (.skip (.skip .h1))))) (.cons (vs:=[_]) I I I (.skip (.skip (.skip (.skip (.skip (.skip (.skip .h1))))))) .nil))))))<|XX<|Kl 10 wu wu rfl rfl rfl<|Ea I (vs:=[_,_,_,_,_,_,_,_]) I λb30=>XX<|Y6 11 wu rfl rfl<|QI (QE I)<|XX<|Wa<|LR (.cons _ (.swap _ _ _)) ?_
   exact XG ((b30,b27,b28,c24.1)) wU QJ3 λF h9=>⟨⟨⟨h9.1.1.1.1,h9.1.1.1.2⟩,h9.1.1.2⟩,trivial⟩
  refine Du (n:=p.sh.toNat) (bytes:=24) wN wN K3 Yr UK I Py O O (λb27=>?_);rw[BD];refine XX<|Kl 2 wu wu rfl rfl rfl<|QV I (λ_ _ f k=>Nc f k.1.2 O) λc22=>?_
  rw[hT.nI];refine XX<|Kl 4 wu wu rfl rfl rfl<|QV I (λ_ _ f k=>BZ f k.1.1.1 k.1.1.2 hun O (λu hu=>wm<|(hV.us u hu).ou) λu hu=>⟨(hV.us u hu).st,(hL.us _ hu).st⟩) λc24=>XX<|Y6 9 wu rfl rfl<|QI (Jr I MO UC (.cons (vs:=[_,_,_]) I I I .h3 (.cons (vs:=[_]) I I I (.skip (.skip (.skip .h1))) (.cons (vs:=[_]) I I I (.skip (.skip (.skip (.skip .h1)))) (.cons (vs:=[_]) I I I (.skip (.skip (.skip (.skip (.skip .h1))))) (.cons (vs:=[_]) I I I (.skip (.skip (.skip (.skip (.skip (.skip (.skip .h1))))))) .nil))))))<|XX<|Kl 10 wu wu rfl rfl rfl<|Ea I (vs:=[_,_,_,_,_,_,_,_]) I λb30=>XX<|Y6 11 wu rfl rfl<|QI (QE I)<|XX<|Wa<|LR (.cons _ (.swap _ _ _)) ?_
  exact XG ((b30,b27,b28,c24.1)) wU QJ3 λF h9=>⟨⟨⟨h9.1.1.1.1,h9.1.1.1.2⟩,h9.1.1.2⟩,trivial⟩
 intro y;obtain⟨b30,b27,b28,r24⟩:=y;dsimp only;refine wA 4 I<|QA (Xl I)<|QA (QH I dh QZ)<|QA (Qf I QZ .here (.skip (.skip (.skip .h1))))<|Y8 (n:=p.ul.length) (bytes:=24) wN wN K3 Yr UK I Py O O λb36=>?_
 rw[BD];refine QA (Xl I)<|QA (QH I OO VV)<|QS (vs:=[_]) I I I VV I .u1 (.skip (.skip (.skip (.skip (.skip (.skip .h1)))))) wT<|QJi<|QG<|JY 11 (.cons_cons _ (.cons_cons _ (.cons_cons _ (.cons _ .slnil)))) mixed wu wu ?_
 simp only[List.take_succ_cons,List.take_zero,List.drop_succ_cons,List.drop_zero];refine QI (QD I)<|QI (Xl I)<|QI (QH I Fh VV)<|QI (Qf I VV .u1 (.skip (.skip (.skip (.skip (.skip .h1))))))<|QI (QD I)<|QI (Xl I)<|QI (QH I dh QZ)<|QI (Qf I QZ .u1 (.skip (.skip (.skip .h1))))<|QI (Qk I I O) ?_
 rw[show(((p.ul.length:Nat):Int)+1)=((p.ul.length+1:Nat):Int)from rfl];refine QV I (λ_ _ f h=>QD3 (v:=0) (k:=p.ul.length+1) f O O) (λc48=>QI (Qj (i:=0) rfl rfl K3 Yr O)<|X1<|QS (vs:=[_]) I I I Yr I .u3 (BI (f:=(λe:BB=>e.1.v)) (l:=List.replicate p.sh.toNat yv) (i:=0) tA c48) wT<|QLi 5 I<|QA (QH I XS Jj)<|QA (Qg (n:=1) ((0)*3+1) (λF h9=>(Qu.of (n:=1) (sz:=3) h9.1.1.2 I)) O rfl Jj I)<|QA (QW I Xr)<|QLi 4 I<|Vv (ι:=QKf p) [(1,_),(3,_),(51,_),(52,_)] (λi=>[(53,.int .i64 ((i.i:Nat):Int))]) (λi=>(b36,.cells ((List.replicate p.ul.length yv).map (λe:BB=>e.1.v)++[]).toArray 107 (0,0))::(b30,.cells [Qs p.sh,.slice p.un.q p.un.n p.un.cap,.slice p.ot.q p.ot.n p.ot.cap,.int .i64 ((p.ul.length:Nat):Int),r24.v,.slice (some ⟨b27,0,none⟩) p.sh.toNat p.sh.toNat,.slice (some ⟨b36,0,none⟩) p.ul.length p.ul.length,.map (some b28)].toArray 105 (0,0))::(b28,ZA Qs (yu i.i))::(b27,.cells ((i.xs).map (λe:BB=>e.1.v)++[]).toArray 107 (0,0))::[]) (λi F=>ShP F p i.i i.xs) (λi=>p.ul.length-i.i) (⟨0,(List.replicate p.sh.toNat yv).set 0 c48,Nat.zero_le _,w9⟩) wW wT QJ3 (λF h=>ShP.start hsh.1 h.2) λi=>?_);have hi:=i.le;have hxl:=i.xl;refine wA 6 I ?_;refine QL I (λhc2=>?_) λhc2=>?_
 ·have hlt:i.i<p.ul.length:=wm<|QK8 hc2
  have hum:=Ql hlt;have ho:=hV.ou hlt;refine QLj 7 I<|QA (Qo (n:=p.un.n) i.i (λF h9=>h9.1.1.1.1.2.un) rfl rfl Xr XJ O)<|QA (JG (n:=p.un.n) (vs:=[tx (el p.ul i.i).kd,.slice (el p.ul i.i).fd.q (el p.ul i.i).fd.n (el p.ul i.i).fd.cap,Qs ((el p.ul i.i).ou),tx (el p.ul i.i).st,.slice (el p.ul i.i).cv.q (el p.ul i.i).cv.n (el p.ul i.i).cv.cap]) ((i.i)*5) (λF h9=>h9.1.1.1.1.2.un) O rfl XJ I λj v hv=>Q4 (f:=MJ) (l:=p.ul) ZO O hv)<|Qe Ni λb5=>QJk I<|QS (vs:=[_,_,_,_,_]) I I I XJ I .here .h5 wX<|QJi<|QKt<|QA (QH I Ks YZ)<|QA (Qf I YZ .here .h1)<|QA (ZD I I)<|QF<|QC ?_
  refine QL I (λhc2=>?_) λhc2=>?_
  ·refine QG<|JY 10 QJ3 mixed wu wu ?_
   simp only[List.take_succ_cons,List.take_zero,List.drop_succ_cons,List.drop_zero];refine QI (QD I)<|QI (Xl I)<|QI (QH I qt US)<|QI (Qf I US .u2 (.skip (.skip (.skip (.skip (.skip (.skip (.skip .h1))))))))<|QI (QD I)<|QI (QD I)<|QI (Xl I)<|QI (QH I qt US)<|QI (Qf I US .u2 (.skip (.skip (.skip (.skip (.skip (.skip (.skip .h1))))))))<|QI (uc I gW .u3) ?_
   rw[u9];refine X1<|EZ (k:=((i.i:Nat):Int)) (v:=.int .i64 ((i.i:Nat):Int)) QEQ I I I gW .u3 ?_
   rw[QEJ];refine QJi<|JY 18 (.cons_cons _ (.cons_cons _ (.cons_cons _ (.cons_cons _ (.cons _ .slnil))))) mixed wu wu ?_
   simp only[List.take_succ_cons,List.take_zero,List.drop_succ_cons,List.drop_zero];refine QI (QD I)<|QI (Xl I)<|QI (QH I Fh VV)<|QI (Qf I VV .u2 (.skip (.skip (.skip (.skip (.skip .h1))))))<|QI (QH I KI QZ)<|QI (Qf I QZ .here (.skip (.skip .h1)))<|QI (QD I)<|QI (Xl I)<|QI (QH I qt US)<|QI (Qf I US .u2 (.skip (.skip (.skip (.skip (.skip (.skip (.skip .h1))))))))<|QI (uc I gW .u3) ?_
   rw[u9];refine QI (QD I)<|QI (Xl I)<|QI (QH I dh QZ)<|QI (Qf I QZ .u2 (.skip (.skip (.skip .h1))))<|QI (Qk I I O) ?_
   rw[show(((p.ul.length:Nat):Int)+1)=((p.ul.length+1:Nat):Int)from rfl];refine QV I (λ_ _ f h=>QD3 (v:=i.i+1) (k:=p.ul.length+1) f O O) (λc87=>QI (Qj (i:=(el p.ul i.i).ou.toNat) rfl wN K3 Yr O)<|X1<|QS (vs:=[_]) I I I Yr I .u4 (BI (f:=(λe:BB=>e.1.v)) (l:=i.xs) (i:=(el p.ul i.i).ou.toNat) (by rw[i.xl];omega) c87) wT<|QF<|Qa<|QC<|QB<|QA (Qk I I O)<|wB 2 I ?_);exact Qb (⟨i.i+1,i.xs.set (el p.ul i.i).ou.toNat c87,hlt,by rw[List.length_set];exact i.xl⟩) (by show p.ul.length-(i.i+1)<p.ul.length-i.i;omega) wX ((.cons _ QJ3)) λF ⟨⟨⟨⟨⟨⟨hGl,hP⟩,hz1⟩,_⟩,h48⟩,hS⟩,h87⟩=>⟨⟨⟨⟨⟨hGl,hP⟩,hz1⟩,trivial⟩,h48⟩,ShP.next hV i.xl hS hlt h87⟩
  exact absurd hc2 ((by rw[hT.kd _ hum];decide))
 have hge:i.i=p.ul.length:=by have:=QK9 hc2;have:=i.le;omega
 have hob:L1 p.ul=true:=by unfold L1;rw[hord];exact decide_eq_true hnl
 refine Q7 ?_;refine QKt<|QA (JG (n:=1) (vs:=[Qs p.sh,.slice p.un.q p.un.n p.un.cap,.slice p.ot.q p.ot.n p.ot.cap]) ((0)*3) (λF h9=>(Qu.of (n:=1) (sz:=3) h9.1.1.1.2 I)) O rfl Zf I λj v hv=>by simpa using hv)<|QJ I (λ_ _ f k=>Cd f k.1.1.1.1.2 hun O λu hu=>(hV.us u hu).ou) λc92=>JM _ (λ_ _ f k=>(k.2 hV.dr).2.1) λn92=>QLi 9 I<|QA (JG (n:=1) (vs:=[Qs p.sh,.slice p.un.q p.un.n p.un.cap,.slice p.ot.q p.ot.n p.ot.cap]) ((0)*3) (λF h9=>(Qu.of (n:=1) (sz:=3) h9.1.1.1.1.2 I)) O rfl Zf I λj v hv=>by simpa using hv)<|QJj I<|QJ I (λ_ _ g k=>gE (N:=c92.n) g k.1.1.1.1.1.2 (by rw[n92];have:=(k.2 hV.dr).1;rwa [n92]at this) hun (λu hu=>by have h1:=Z5 (hV.us u hu);have h2:=(k.1.1.1.1.1.2.us _ hu).MQ;omega) (λu hu=>(hV.us u hu).kd) λu hu f hf=>wm<|((hV.us u hu).fd f (gP hf)).1) λc98=>JM _ (λ_ _ f k=>(k.2 hob).2.1) λn98=>QLi 9 I<|Jf (b:=b27) .u3<|Jf (b:=b30) .u1<|wA 2 I<|QA (QW I Qd)<|QLi 4 I<|Jo (ι:=IxJ (X9 p.ul).length) [(1,_),(3,_),(8,_),(101,_),(102,_)] (λi2=>[(103,.int .i64 ((i2.i:Nat):Int))]) (λi2=>(X9 p.ul).length-i2.i) (⟨0,Nat.zero_le _⟩) wX wT λi2=>?_
 have hi2:=i2.le;refine wA 6 I ?_;refine QL I (λhc2=>?_) λhc2=>?_
 ·have hlt2:i2.i<(X9 p.ul).length:=wm<|QK8 hc2
  have hlt2b:i2.i<p.ul.length:=O;have hum:=Ql hlt2b;have hoe:el (X9 p.ul) i2.i=((i2.i:Nat):Int):=(congrArg (λl=>el l i2.i) hord).trans (QCB hlt2b);refine QLj 6 I<|QA (Qo (n:=c98.n) (i2.i) (λF h9=>(h9.1.1.2 hob).1) rfl rfl Qd QZ O)<|QA (Qg (n:=c98.n) (i2.i*1) (λF h9=>(h9.1.1.2 hob).1) O rfl QZ (ZF (f:=Qs) (l:=X9 p.ul) O)) ?_
  rw[hoe];refine QLi 5 I<|QA (QH I XS Jj)<|QA (Qg (n:=1) ((0)*3+1) (λF h9=>(Qu.of (n:=1) (sz:=3) h9.1.1.1.1.1.1.1.2 I)) O rfl Jj I)<|QJj I<|QA (Qo (n:=p.un.n) (i2.i) (λF h9=>h9.1.1.1.1.1.1.1.1.2.un) rfl rfl Xr XJ O)<|QA (JG (n:=p.un.n) (vs:=[tx (el p.ul (i2.i)).kd,.slice (el p.ul (i2.i)).fd.q (el p.ul (i2.i)).fd.n (el p.ul (i2.i)).fd.cap,Qs ((el p.ul (i2.i)).ou),tx (el p.ul (i2.i)).st,.slice (el p.ul (i2.i)).cv.q (el p.ul (i2.i)).cv.n (el p.ul (i2.i)).cv.cap]) ((i2.i)*5) (λF h9=>h9.1.1.1.1.1.1.1.1.2.un) O rfl XJ I λj v hv=>Q4 (f:=MJ) (l:=p.ul) ZO O hv)<|Qe Ni λb12=>QS (vs:=[_,_,_,_,_]) I I I XJ I .here .h5 wX<|QJi<|QG<|pU (r:=[0,1,2,3,4,5]) QJ3 mixed wu rfl<|NW 1 wu rfl rfl<|QI (QH I Ks YZ)<|NV<|NW 2 wu rfl rfl<|QI (Qf I YZ .here .h1)<|NV<|ya 0 wu wu rfl rfl rfl<|Wt I (List.Perm.refl _) qm (λc w h=>h.imp (.cons _ QJ3) λ_ h=>h) λc112=>QCU (E1:=⟨_,_,(c112,ZA tx kdM)::_,_⟩) (λw h=>h.imp (.cons _ QJ3) λ_ h=>h) tC<|NW 3 wu rfl rfl<|QI (kO H6 I I PI qW .here (dG (el p.ul i2.i).kd))<|NV<|NW 4 wu rfl rfl<|QI (ud QGE QFQ (cs:=[_,_,_,_]) I I)<|NV<|NW 5 wu rfl rfl<|QI (QE I)<|NV<|jJ ?_
  rw[show kH (el p.ul i2.i).kd = .nilFunc from by rw[hT.kd _ hum];unfold kH;rw[if_pos rfl]];refine QC<|wS I<|QA (QFb I I wu)<|QF<|QC ?_
  refine QL I (λhc2=>?_) λhc2=>?_
  ·exact absurd hc2 (wv)
  refine QK<|Qa<|QC<|QB<|QA (Qk I I O)<|wB 2 I ?_
  exact Qb (⟨i2.i+1,hlt2⟩) (by show(X9 p.ul).length-(i2.i+1)<(X9 p.ul).length-i2.i;omega) wY ((.cons _ (.cons _ QJ3))) tC
 refine Q7 ?_;refine wA 4 I<|QA (QW I Qd)<|QLi 4 I<|Vv (ι:=QKe p) [(1,_),(3,_),(131,_),(132,_)] (λi3=>[(133,.int .i64 ((i3.i:Nat):Int))]) (λi3=>(b36,.cells ((i3.ys).map (λe:BB=>e.1.v)++[]).toArray 107 (0,0))::(b28,ZA Qs (yu i.i))::[]) (λi3 F=>RtP F p i3.i i3.ys) (λi3=>p.ul.length-i3.i) (⟨0,List.replicate p.ul.length yv,Nat.zero_le _,w9⟩) wW wT QJ3 (λF _ k hk=>absurd hk (Nat.not_lt_zero _)) λi3=>?_
 have hi3:=i3.le;have hyl:=i3.yl;refine wA 6 I ?_;refine QL I (λhc2=>?_) λhc2=>?_
 ·have hlt3:i3.i<p.ul.length:=wm<|QK8 hc2
  have hlo:i3.i<(X9 p.ul).length:=O;have hum:=Ql hlt3;have hoe:el (X9 p.ul) i3.i=((i3.i:Nat):Int):=(congrArg (λl=>el l i3.i) hord).trans (QCB hlt3);have htw:=(hT.two hum).1;have hfu:=(hP.us _ hum).MQ;have hm0:=Ql (show 0<(el p.ul i3.i).fl.length by omega);have hm1:=Ql (show 1<(el p.ul i3.i).fl.length by omega);have hf0:=(hV.us _ hum).fd _ hm0;have hf1:=(hV.us _ hum).fd _ hm1;have hz0:=hT.z _ hum _ hm0;have hz1b:=hT.z _ hum _ hm1;have hzm:=Zg (Jc (el (el p.ul i3.i).fl 0).r) (Jc (el (el p.ul i3.i).fl 1).r);have hs1:XH 1<=10000:=wy;have hx0:Mq p.ul (el (el p.ul i3.i).fl 1).k=0:=QH1 hT hum;have hpz:PW (List.replicate (p.ul.length+1) (0:Int)):=⟨λx hx=>by rw[List.eq_of_mem_replicate hx];omega,tA⟩;have hadd:YA (uV (p.ul.length+1) (Mq p.ul (el (el p.ul i3.i).fl 0).k)) (List.replicate (p.ul.length+1) (0:Int))=uV (p.ul.length+1) (Mq p.ul (el (el p.ul i3.i).fl 0).k):=by have:=kq (uV (p.ul.length+1) (Mq p.ul (el (el p.ul i3.i).fl 0).k));rwa [S6]at this
  have hnz:Jc (el (el p.ul i3.i).fl 0).r*Jc (el (el p.ul i3.i).fl 1).r≠0:=by rw[Ne,Rat.mul_eq_zero];exact λh=>h.elim hf0.2.2 hf1.2.2
  refine QLj 6 I<|QA (Qo (n:=c98.n) (i3.i) (λF h9=>(h9.1.1.1.2 hob).1) rfl rfl Qd QZ O)<|QA (Qg (n:=c98.n) (i3.i*1) (λF h9=>(h9.1.1.1.2 hob).1) O rfl QZ (ZF (f:=Qs) (l:=X9 p.ul) O)) ?_
  rw[hoe];refine QLi 5 I<|QA (QH I XS Jj)<|QA (Qg (n:=1) ((0)*3+1) (λF h9=>(Qu.of (n:=1) (sz:=3) h9.1.1.1.1.1.1.1.1.2 I)) O rfl Jj I)<|QJj I<|QA (Qo (n:=p.un.n) (i3.i) (λF h9=>h9.1.1.1.1.1.1.1.1.1.2.un) rfl rfl Xr XJ O)<|QA (JG (n:=p.un.n) (vs:=[tx (el p.ul (i3.i)).kd,.slice (el p.ul (i3.i)).fd.q (el p.ul (i3.i)).fd.n (el p.ul (i3.i)).fd.cap,Qs ((el p.ul (i3.i)).ou),tx (el p.ul (i3.i)).st,.slice (el p.ul (i3.i)).cv.q (el p.ul (i3.i)).cv.n (el p.ul (i3.i)).cv.cap]) ((i3.i)*5) (λF h9=>h9.1.1.1.1.1.1.1.1.1.2.un) O rfl XJ I λj v hv=>Q4 (f:=MJ) (l:=p.ul) ZO O hv)<|Qe Ni λb16=>QS (vs:=[_,_,_,_,_]) I I I XJ I .here .h5 wX<|QLi 5 I<|QA (Xl I)<|QA (QH I qt US)<|QA (Qg (n:=1) ((0)*8+7) (λF h9=>(Qu.of (n:=1) (sz:=8) h9.1.2 I)) O rfl US I)<|QJj I<|QA (xH QEQ I I gW QHA .u2 (QEK O))<|QLi 12 I ?_
  refine QL I (λhc2=>?_) λhc2=>?_
  ·refine QG<|yZ (r:=[0,1,2,3,4,5,6,7,8,9,10,11,12,13,14]) tF mixed wu rfl<|Y6 0 wu rfl rfl<|QI (QH I ZV XK)<|XX<|Y6 1 wu rfl rfl<|QI (Qf I XK .here (.skip .h1))<|XX<|Y6 2 wu rfl rfl<|QI (Qo (n:=(el p.ul (i3.i)).fd.n) (0) (λF h9=>((h9.1.1.1.1.1.1.1.1.1.2.us _ (Ql (show i3.i<p.ul.length from O)))).fd) rfl wN Zz YC O)<|XX<|Y6 3 wu rfl rfl<|QI (QH I Gc JP)<|XX<|Y6 4 wu rfl rfl<|QI (Qg (n:=(el p.ul (i3.i)).fd.n) ((0)*2+1) (λF h9=>((h9.1.1.1.1.1.1.1.1.1.2.us _ (Ql (show i3.i<p.ul.length from O)))).fd) O rfl JP (Q4 (f:=BV) (l:=(el p.ul (i3.i)).fl) Zw O rfl))<|XX<|Y6 6 wu rfl rfl<|QI (QH I ZV XK)<|XX<|Y6 7 wu rfl rfl<|QI (Qf I XK .here (.skip .h1))<|XX<|Y6 8 wu rfl rfl<|QI (Qo (n:=(el p.ul (i3.i)).fd.n) (1) (λF h9=>((h9.1.1.1.1.1.1.1.1.1.2.us _ (Ql (show i3.i<p.ul.length from O)))).fd) rfl wN Zz YC O)<|XX<|Y6 9 wu rfl rfl<|QI (QH I Gc JP)<|XX<|Y6 10 wu rfl rfl<|QI (Qg (n:=(el p.ul (i3.i)).fd.n) ((1)*2+1) (λF h9=>((h9.1.1.1.1.1.1.1.1.1.2.us _ (Ql (show i3.i<p.ul.length from O)))).fd) O rfl JP (Q4 (f:=BV) (l:=(el p.ul (i3.i)).fl) Zw O rfl))<|XX<|yW (A:=[13]) (r:=[5,11,12,14]) wu<|OZ 5 wu wu w8 tF tC rfl rfl rfl (λ_=>rfl) (λ_ _ f k=>WS (r:=Jc (el (el p.ul i3.i).fl 0).r) f k.1.1.1.1.1.1.1.1.1.1 (Xa hf0.2.1).1 (wm<|(hL.us _ hum).fr _ hm0)) λc157=>OZ 11 wu wu w8 tF tD rfl rfl rfl (λ_=>rfl) (λ_ _ f k=>WS (r:=Jc (el (el p.ul i3.i).fl 1).r) f k.1.1.1.1.1.1.1.1.1.1.1 (Xa hf1.2.1).1 (wm<|(hL.us _ hum).fr _ hm1)) λc163=>OZ 12 wu wu w8 tF (λ_ h=>h.1.1) rfl rfl rfl (λ_=>rfl) (λ_ _ f k=>HH f k.1.2 k.2 O O) λc164=>QBh 13 (d:=19) (T:=77) wu wu w8 tF (λ_ h=>h.1.1.1) wu wu VU λb19=>yV (vs:=[_,_,_,_]) 14 wu wu w8 (.cons _ tF) (λ_ h=>h.1.1.1) rfl rfl (λ_=>rfl) (λ_=>rfl) rfl JA I .here tF .h4 wW ?_
   refine pT ?_ wu;refine QC<|JY 36 (.cons_cons _ (.cons_cons _ (.cons _ tF))) mixed wu wu ?_
   simp only[List.take_succ_cons,List.take_zero,List.drop_succ_cons,List.drop_zero];refine QI (QD I)<|QI (Xl I)<|QI (QH I OO VV)<|QI (Qg (n:=1) ((0)*8+6) (λF h9=>(Qu.of (n:=1) (sz:=8) h9.1.1.1.1.2 I)) O rfl VV I)<|QI (QD I)<|QI (QD I)<|QI (Xl I)<|QI (QH I Fh VV)<|QI (Qg (n:=1) ((0)*8+5) (λF h9=>(Qu.of (n:=1) (sz:=8) h9.1.1.1.1.2 I)) O rfl VV I)<|QI (QH I ZV XK)<|QI (Qf I XK .u1 (.skip .h1))<|QI (Qo (n:=(el p.ul (i3.i)).fd.n) (0) (λF h9=>((h9.1.1.1.1.1.1.1.1.1.1.1.1.2.us _ (Ql (show i3.i<p.ul.length from O)))).fd) rfl wN Zz YC O)<|QI (QH I GB QZ)<|QI (Qg (n:=(el p.ul (i3.i)).fd.n) ((0)*2+0) (λF h9=>((h9.1.1.1.1.1.1.1.1.1.1.1.1.2.us _ (Ql (show i3.i<p.ul.length from O)))).fd) O rfl QZ (Q4 (f:=BV) (l:=(el p.ul (i3.i)).fl) Zw O rfl))<|QI (Qo (n:=p.sh.toNat) ((el (el p.ul i3.i).fl 0).k.toNat) (λF h9=>(Qu.ofR (n:=p.sh.toNat) (sz:=1) (rest:=[]) h9.1.1.1.1.1.2 (by rw[List.length_map];omega))) I wN K3 Yr O)<|QI (Qg (n:=p.sh.toNat) (((el (el p.ul i3.i).fl 0).k.toNat)*1) (λF h9=>(Qu.ofR (n:=p.sh.toNat) (sz:=1) (rest:=[]) h9.1.1.1.1.1.2 (by rw[List.length_map];omega))) O rfl Yr (ZF (f:=(λe:BB=>e.1.v)) (l:=i.xs) O))<|QI (QD I)<|QI (Xl I)<|QI (QH I Fh VV)<|QI (Qg (n:=1) ((0)*8+5) (λF h9=>(Qu.of (n:=1) (sz:=8) h9.1.1.1.1.2 I)) O rfl VV I)<|QI (QH I ZV XK)<|QI (Qf I XK .u1 (.skip .h1))<|QI (Qo (n:=(el p.ul (i3.i)).fd.n) (1) (λF h9=>((h9.1.1.1.1.1.1.1.1.1.1.1.1.2.us _ (Ql (show i3.i<p.ul.length from O)))).fd) rfl wN Zz YC O)<|QI (QH I GB QZ)<|QI (Qg (n:=(el p.ul (i3.i)).fd.n) ((1)*2+0) (λF h9=>((h9.1.1.1.1.1.1.1.1.1.1.1.1.2.us _ (Ql (show i3.i<p.ul.length from O)))).fd) O rfl QZ (Q4 (f:=BV) (l:=(el p.ul (i3.i)).fl) Zw O rfl))<|QI (Qo (n:=p.sh.toNat) ((el (el p.ul i3.i).fl 1).k.toNat) (λF h9=>(Qu.ofR (n:=p.sh.toNat) (sz:=1) (rest:=[]) h9.1.1.1.1.1.2 (by rw[List.length_map];omega))) I wN K3 Yr O)<|QI (Qg (n:=p.sh.toNat) (((el (el p.ul i3.i).fl 1).k.toNat)*1) (λF h9=>(Qu.ofR (n:=p.sh.toNat) (sz:=1) (rest:=[]) h9.1.1.1.1.1.2 (by rw[List.length_map];omega))) O rfl Yr (ZF (f:=(λe:BB=>e.1.v)) (l:=i.xs) O))<|QI (QD I)<|QI (Xl I)<|QI (QH I OO VV)<|QI (Qg (n:=1) ((0)*8+6) (λF h9=>(Qu.of (n:=1) (sz:=8) h9.1.1.1.1.2 I)) O rfl VV I)<|Wt (bs1:=_) rfl (List.perm_middle (l₁:=[_,_])) (QC1 (xs:=i3.ys) (a:=el i.xs (el (el p.ul i3.i).fl 1).k.toNat) (N:=p.ul.length) (λF h9=>⟨h9.1.1.1.1.1.1.1.1.1.1.1.1.1,by have:=h9.1.1.1.1.1.1.1.1.2.at hV hge hf1.1.1 hf1.1.2;rwa [hx0]at this⟩) i3.yl O (Nat.le_refl _)) (λc w h=>h.imp (.cons _ QJ3) λ_ h=>h.1) λc196=>Km (List.perm_middle (l₁:=[_,_])).symm<|QV I (λ_ _ f k=>QFc (N:=p.ul.length+1) f k.1.1.1.1.1.1.1.1.1.1.1.1.1.1 (k.1.1.1.1.1.1.1.1.1.2.at hV hge hf0.1.1 hf0.1.2) k.2 (p8 O) hpz (by rw[hadd];exact p8 O) (S6 _ _) w9 hs1 hs1 (by rw[Rat.one_mul];decide)) λc197=>QI (wJ I JA .here)<|QV I (λ_ _ f k=>QCx f k.2 k.1.1.2 (by rw[show(1:Rat)*1=1 from Rat.one_mul 1];exact hs1) O hnz) λc199=>QI (Qj (i:=i3.i) rfl rfl K3 Yr O)<|X1<|QS (vs:=[_]) I I I Yr I .u2 (BI (f:=(λe:BB=>e.1.v)) (l:=i3.ys) (i:=i3.i) (by rw[i3.yl];omega) c199) wT<|QF<|Qa ?_
   refine QC<|QB<|QA (Qk I I O)<|wB 2 I ?_
   exact Qb (⟨i3.i+1,i3.ys.set i3.i c199,hlt3,by rw[List.length_set];exact i3.yl⟩) (by show p.ul.length-(i3.i+1)<p.ul.length-i3.i;omega) wX ((.cons _ (.cons _ QJ3))) λF ⟨⟨⟨⟨⟨⟨⟨⟨⟨⟨⟨⟨⟨⟨⟨⟨hGl,hP⟩,hz1⟩,_⟩,h48⟩,hS⟩,h92⟩,h98⟩,hz27⟩,hz30⟩,hR3⟩,h157⟩,h163⟩,h164⟩,h196⟩,h197⟩,h199⟩=>⟨⟨⟨⟨⟨⟨⟨⟨⟨⟨hGl,hP⟩,hz1⟩,trivial⟩,h48⟩,hS⟩,h92⟩,h98⟩,hz27⟩,hz30⟩,RtP.next i3.yl hR3 hlt3 (by rw[hadd,show(1:Rat)*1=1 from Rat.one_mul 1,Rat.one_mul]at h199;exact h199)⟩
  exact absurd hc2 (wv)
 have hge3:p.ul.length<=i3.i:=wm<|QK9 hc2
 refine Q7 ?_;refine QG<|Jf (b:=b36) .here<|QLj 6 I ?_
 exact QM (⟨b30,r24,b27,b36,b28,i.xs,i3.ys⟩) I (wO I) (rfl) λF h9=>⟨h9.1.1.2,⟨Qu.ofR (rest:=[]) h9.1.1.1.2 (by rw[List.length_map];show i.xs.length=p.sh.toNat*1;omega),i.xl,by simp[vX],λk hk=>by rw[QDq hk];have:=h9.1.1.1.1.1.1.2.at hV hge (k:=(k:Int)) O O;simpa using this⟩,⟨Qu.ofR (rest:=[]) h9.2 (by rw[List.length_map];show i3.ys.length=p.ul.length*1;omega),i3.yl,by simp[rtM],λk hk=>by rw[vc hk];exact h9.1.2 k O⟩⟩
def AmP(F:Gs)(ms:List Tm)(i:Nat)(rl:List Y1):Prop:=∀k,k<i->Z4 F (el rl k).1 (el rl k).2 [(Q6 (el ms k).1,(el ms k).2)]
theorem AmP.next{ms:List Tm}{rl:List Y1}{c:Y1}(hl:rl.length=i)(h:AmP F ms i rl)(hc:Z4 F c.1 c.2 [(Q6 (el ms i).1,(el ms i).2)]):AmP F ms (i+1) (rl++[c]):=λk hk=>by
 rw[QCF O];by_cases g:k<rl.length
 ·rw[if_pos g];exact h k O
 rw[if_neg g];obtain rfl:k=i:=O;exact hc
structure QCZ(F:Gs)(r:Sr)(ps:List Y1)(ms:List Tm):Prop where
 row:Qu F r.q r.n 1 (ps.map λe=>e.1.v)
 len:ps.length=r.n
 ln2:ms.length=r.n
 pl:AmP F ms r.n ps
structure QKZ(n:Nat) where
 i:Nat
 nv:Value
 nob:List (Nat×Obj)
 nl:List (List UInt8)
 rv:Value
 rob:List (Nat×Obj)
 rl:List Y1
 le:i<=n
 hn:Qp 9 1 nv i (nl.map tx) nob
 hr:Qp 49 1 rv i (rl.map λe=>e.1.v) rob
 ll:rl.length=i
structure RsJ(p:ZL) where
 i:Nat
 v:Value
 ob:List (Nat×Obj)
 le:i<=p.ul.length
 hr:Qp 54 2 v i (((p.ul.take i).map λu=>(u.st,u.st)).flatMap spC) ob
structure QKa(n:Nat) where
 i:Nat
 v:Value
 ob:List (Nat×Obj)
 rl:List Y1
 le:i<=n
 hr:Qp 49 1 v i (rl.map λe=>e.1.v) ob
 ll:rl.length=i
structure RdO where
 nm:Value
 rt:Sr
 rl:List Y1
 sp:Sr
 sh:Sr
 ps:List Y1
structure QKd(F:Gs)(p:ZL)(c:RdO):Prop where
 rt:QCZ F c.rt c.rl (rtM p)
 sp:Qu F c.sp.q c.sp.n 2 ((p.ul.map λu=>(u.st,u.st)).flatMap spC)
 spn:c.sp.n=p.ul.length
 sh:QCZ F c.sh c.ps (vX p)
 rn:c.rt.n=p.ul.length
 sn:c.sh.n=p.sh.toNat
 nm:c.nm.oneCell'=true/\c.nm.cells=[c.nm].toArray
theorem xQ{p:ZL}(hF:Fits F w)(hGl:JZ F)(hP:KO F p)(hL:qB p)(hT:PlT p)(h0:KL p=0):QQ prog 10 [p.v] w F (λ(c:RdO)=>.tuple #[.agg #[c.nm,c.rt.v,c.sp.v],c.sh.v,.int .i64 0]) (λc F=>QKd F p c):=by
 have LU:=hP.MK;have hun:=hL.un;have hV:=hT.v;have hsh:=hV.sh;have hN:p.ul.length<=24:=by rw[<-hT.nI];exact hV.nI
 have hsm:=QKc.sm hT;have hl1:(rtM p).length=p.ul.length:=by simp[rtM]
 have hl2:(vX p).length=p.sh.toNat:=by simp[vX]
 refine QQ.go (G:=λF=>JZ F/\KO F p) func10 hF ⟨hGl,hP⟩ ?_;refine QKt<|Q8 I (vs:=[_,_,_]) I λb1=>Qe vC λb2=>QLi 6 I<|Jf (b:=b1) .u1<|QB<|QA (JG (n:=1) (vs:=[Qs p.sh,.slice p.un.q p.un.n p.un.cap,.slice p.ot.q p.ot.n p.ot.cap]) ((0)*3) (λF h9=>(Qu.of (n:=1) (sz:=3) h9.2 I)) O rfl Zf I λj v hv=>by simpa using hv)<|QJ I (λ_ _ f k=>Rc f k.1.1 k.1.2 hL) λ_=>QLi 9 I ?_
 refine QL I (λhc2=>?_) λhc2=>?_
 ·exact absurd hc2 ((by rw[h0];decide))
 refine QLj 4 I<|QA (JG (n:=1) (vs:=[Qs p.sh,.slice p.un.q p.un.n p.un.cap,.slice p.ot.q p.ot.n p.ot.cap]) ((0)*3) (λF h9=>(Qu.of (n:=1) (sz:=3) h9.1.2 rfl)) O rfl Zf rfl λj v hv=>by simpa using hv)<|QJ rfl (λ_ _ f k=>QD9 f k.1.1.1 k.1.1.2 hL hT) λc23=>JM _ (λw F hF ⟨⟨⟨⟨hGl,hP⟩,hz1⟩,_⟩,h⟩=>And.intro h.2.1.len h.2.2.len) λhy23=>?_
 obtain⟨hxl,hyl⟩:=hy23;refine QLi 5 I<|JC QJ3 mixed wu<|QI (QD I)<|QI (Xl I)<|QI (QH I Fh VV)<|QI (Qg (n:=1) ((0)*8+5) (λF h9=>(Qu.of (n:=1) (sz:=8) h9.2.1 I)) O rfl VV I)<|QV I (λ_ _ f k=>kS f k.1.1.1.1 k.2.2.1 O hsm.1) λ_=>QI (QD I)<|QI (Xl I)<|QI (QH I OO VV)<|QI (Qg (n:=1) ((0)*8+6) (λF h9=>(Qu.of (n:=1) (sz:=8) h9.2.1 I)) O rfl VV I)<|QV I (λ_ _ f k=>kS f k.1.1.1.1.1 k.1.2.2.2 O hsm.2) λ_=>?_
 refine Jp I (JR Va) Gv UJ I I (λb34=>?_) (λw h=>h.imp tF λF h=>h.1.1);refine QV I (λ_ _ f k=>B4 (l:=[0,0]) f (Qu.of k.2 I) wv) (λ_=>?_);rw[show Qz [0,0]=0 from rfl];refine QI (QE I)<|Qv<|QLk 7 I ?_
 refine QL I (λhc2=>?_) λhc2=>?_
 ·exact absurd hc2 (wv)
 refine QLj 4 I<|Qe vC λb8=>QLi 6 I<|QA (Xl I)<|QA (QH I OO VV)<|QA (Qg (n:=1) ((0)*8+6) (λF h9=>(Qu.of (n:=1) (sz:=8) h9.1.1.1.1.2.1 I)) O rfl VV I)<|QA (QW I K3)<|QLi 4 I<|Vv (ι:=QKZ p.ul.length) [(1,_),(2,_),(6,_),(8,_),(43,_),(44,_)] (λi=>[(45,.int .i64 ((i.i:Nat):Int))]) (λi=>(b8,.cells [i.nv,i.rv,.slice none 0 0].toArray 41 (0,0))::(b2,.cells [.slice none 0 0,.slice none 0 0,.slice none 0 0].toArray 41 (0,0))::(i.nob++i.rob)) (λi F=>AmP F (rtM p) i.i i.rl) (λi=>p.ul.length-i.i) (⟨0,.slice none 0 0,[],[],.slice none 0 0,[],[],Nat.zero_le _,.nil,.nil,rfl⟩) wY wT QJ3 (λF _ k hk=>absurd hk (Nat.not_lt_zero _)) λi=>?_
 have hi:=i.le;have hll:=i.ll;refine wA 6 I ?_;refine QL I (λhc2=>?_) λhc2=>?_
 ·have hlt:i.i<p.ul.length:=wm<|QK8 hc2
  refine QLj 7 I<|QA (Qo (n:=p.ul.length) i.i (λF h9=>h9.1.1.1.1.1.2.2.2.row) rfl rfl K3 Yr O)<|QA (Qg (n:=p.ul.length) ((i.i)*1) (λF h9=>h9.1.1.1.1.1.2.2.2.row) O rfl Yr (ZF (f:=(λe:BB=>e.1.v)) (l:=c23.ys) O))<|QLi 5 I<|JY 7 (.cons_cons _ (.cons_cons _ (List.sublist_append_right _ _))) mixed wu wu ?_
  simp only[List.take_succ_cons,List.take_zero,List.drop_succ_cons,List.drop_zero];refine QI (QH I Av Nr)<|QI (Qf I Nr .here .h1)<|QI (QD I)<|QV I (λ_ _ f k=>QED (v:=i.i) f k.1.1.1.1.1.1.1.1.1 O) λc53=>?_
  refine Jp I (JR Ma) YZ z_9 I I (λb54=>?_) (λw h=>h.imp (.cons_cons _ (.cons_cons _ (List.sublist_append_right _ _))) tD);refine Km (List.perm_append_comm_assoc [_,_] _ _) ?_;refine Kn (n:=i.i) (k:=1) (sz:=1) (news:=[tx c53]) I I Ma YZ z_9 I QEp i.hn (Src.row (off:=0) tE (λj q hq=>by rw[Nat.zero_add];rw[List.getElem?_toArray];exact hq) rfl) O O (by intro v hv;rw[List.mem_singleton.1 hv];rfl) QJ3 (λ_ h=>h.1.1) (λv55 ob55 hr55=>?_);refine Km (List.perm_append_comm_assoc [_,_] _ _).symm<|QI (QH I Av Nr)<|X1<|QS (vs:=[_]) I I hr55.one.2 Nr I .here .h1 ⟨hr55.one.1,trivial⟩<|QJi<|JY 7 (.cons_cons _ (.cons_cons _ (List.sublist_append_left ob55 _))) mixed wu wu ?_
  simp only[List.take_succ_cons,List.take_zero,List.drop_succ_cons,List.drop_zero];refine QI (QH I EN GM)<|QI (Qf I GM .here (.skip .h1))<|QI (QD I)<|QV I (λ_ _ f h=>ue (y:=(el (rtM p) i.i).1) (k:=(el (rtM p) i.i).2) f h.1.1.1.1.1.1.1.1.1.1.1 (h.1.1.1.1.1.1.1.2.2.2.pl _ hlt) (hsm.2 _ (Ql (show i.i<(rtM p).length by omega))).k (Nat.le_trans (hsm.2 _ (Ql (show i.i<(rtM p).length by omega))).y wv)) λc60=>?_
  refine Jp I (JR KW) YY vB I I (λb61=>?_) (λw h=>h.imp (.cons_cons _ (.cons_cons _ (List.sublist_append_left ob55 _))) tD);refine Km (List.perm_append_comm (l₁:=_::_::ob55) (l₂:=i.rob)) ?_;refine Kn (n:=i.i) (k:=1) (sz:=1) (news:=[.slice c60.1.q c60.1.n c60.1.cap]) I I KW YY vB I yJ i.hr (Src.row (off:=0) tE (λj q hq=>by rw[Nat.zero_add];rw[List.getElem?_toArray];exact hq) rfl) O O (by intro v hv;rw[List.mem_singleton.1 hv];rfl) QJ3 (λ_ h=>h.1.1) (λv62 ob62 hr62=>?_);refine Km (List.perm_append_comm (l₁:=ob62) (l₂:=_::_::ob55))<|QI (QH I EN GM)<|X1<|QS (vs:=[_]) I I hr62.one.2 GM I .here (.skip .h1) ⟨hr62.one.1,trivial⟩<|QF<|Qa<|QC<|QB<|QA (Qk I I O)<|wB 2 I ?_
  exact Qb (⟨i.i+1,v55,ob55,i.nl++[c53],v62,ob62,i.rl++[c60],hlt,by rw[List.map_append];exact hr55,by rw[List.map_append];exact hr62,by rw[List.length_append,i.ll];rfl⟩) (by show p.ul.length-(i.i+1)<p.ul.length-i.i;omega) wZ QJ3 λF ⟨⟨⟨⟨⟨⟨⟨⟨⟨⟨⟨⟨⟨hGl,hP⟩,hz1⟩,_⟩,h23⟩,_⟩,_⟩,hs34⟩,_⟩,hR⟩,_⟩,hs54⟩,h60⟩,hs61⟩=>⟨⟨⟨⟨⟨⟨⟨⟨⟨hGl,hP⟩,hz1⟩,trivial⟩,h23⟩,trivial⟩,trivial⟩,hs34⟩,trivial⟩,AmP.next i.ll hR h60⟩
 have hge:i.i=p.ul.length:=by have:=QK9 hc2;have:=i.le;omega
 refine Q7 ?_;refine QG<|QG ?_
 obtain⟨rR,hvR,hnR,hcR,hfixR⟩:=Qp.fix (w0:=w) (F0:=F) (bs1:=_::_::i.nob) (G:=_) i.hr;refine Hh hfixR ?_;rw[hvR];refine QB<|QA (QH I XS Jj)<|QA (Qg (n:=1) ((0)*3+1) (λF h9=>(Qu.of (n:=1) (sz:=3) h9.1.1.1.1.1.1.1.1.2 I)) O rfl Jj I)<|QA (QW I Xr)<|QLi 4 I<|Vv (ι:=RsJ p) [(2,_),(6,_),(8,_),(66,_),(67,_)] (λj=>[(68,.int .i64 ((j.i:Nat):Int))]) (λj=>(b8,.cells [i.nv,rR.v,j.v].toArray 41 (0,0))::(b2,.cells [.slice none 0 0,.slice none 0 0,.slice none 0 0].toArray 41 (0,0))::j.ob) (λj F=>True) (λj=>p.ul.length-j.i) (⟨0,.slice none 0 0,[],Nat.zero_le _,.nil⟩) wX wT tJ tB λj=>?_
 have hj:=j.le;refine wA 6 I ?_;refine QL I (λhc2=>?_) λhc2=>?_
 ·have hlj:j.i<p.ul.length:=wm<|QK8 hc2
  have hum:=Ql hlj;refine QLj 6 I<|QA (Qo (n:=p.un.n) (j.i) (λF h9=>h9.1.1.1.1.1.1.1.1.1.1.2.un) rfl rfl Xr XJ O)<|QA (JG (n:=p.un.n) (vs:=[tx (el p.ul (j.i)).kd,.slice (el p.ul (j.i)).fd.q (el p.ul (j.i)).fd.n (el p.ul (j.i)).fd.cap,Qs ((el p.ul (j.i)).ou),tx (el p.ul (j.i)).st,.slice (el p.ul (j.i)).cv.q (el p.ul (j.i)).cv.n (el p.ul (j.i)).cv.cap]) ((j.i)*5) (λF h9=>h9.1.1.1.1.1.1.1.1.1.1.2.un) O rfl XJ I λj v hv=>Q4 (f:=MJ) (l:=p.ul) ZO O hv)<|Qe Ni λb12=>QS (vs:=[_,_,_,_,_]) I I I XJ I .here .h5 wX<|QJi<|QKt<|QA (QH I Ks YZ)<|QA (Qf I YZ .here .h1)<|QA (ZD I I)<|QF<|QC ?_
  refine QL I (λhc2=>?_) λhc2=>?_
  ·refine QB<|QA (QH I I6 Rz)<|QA (Qf I Rz .u1 (.skip (.skip .h1)))<|QA (QH I Bv JP)<|QA (Qf I JP .here (.skip (.skip (.skip .h1))))<|QA (QH I Bv JP)<|QA (Qf I JP .here (.skip (.skip (.skip .h1))))<|QA (Jr I QBz yj (wQ I I I))<|Qw I (JR je) Ry yj I I λb82=>?_
   refine Zj (bs1:=[_,_,_]) (ob:=j.ob) (n:=j.i) (k:=1) (sz:=2) (news:=spC ((el p.ul j.i).st,(el p.ul j.i).st)) I I je Ry yj I QEq j.hr (Src.row (off:=0) tE (λj q hq=>by rw[Nat.zero_add];rw[List.getElem?_toArray];exact hq) rfl) O O (uJ _) (λv83 ob83 hr83=>?_);refine QA (QH I I6 Rz)<|QS (vs:=[_]) I I hr83.one.2 Rz I .u1 (.skip (.skip .h1)) ⟨hr83.one.1,trivial⟩<|QF<|Qa<|QC<|QB<|QA (Qk I I O)<|wB 2 I ?_
   exact Qb (⟨j.i+1,v83,ob83,hlj,by rw[XF hlj,List.map_append,List.flatMap_append];simpa using hr83⟩) (by show p.ul.length-(j.i+1)<p.ul.length-j.i;omega) wY ((.cons _ QJ3)) λF h=>⟨h.1.1,trivial⟩
  exact absurd hc2 ((by rw[hT.kd _ hum];decide))
 have hgj:j.i=p.ul.length:=by have:=QK9 hc2;have:=j.le;omega
 refine Q7 ?_;refine QG ?_;obtain⟨rS,hvS,hnS,hcS,hfixS⟩:=Qp.fix (w0:=w) (F0:=F) (bs1:=_::_::[]) (G:=_) j.hr;refine Hh hfixS ?_;rw[hvS];refine QLj 8 I<|QA (Xl I)<|QA (QH I Fh VV)<|QA (Qg (n:=1) ((0)*8+5) (λF h9=>(Qu.of (n:=1) (sz:=8) h9.1.1.1.1.1.1.1.1.2.1 I)) O rfl VV I)<|QA (QW I K3)<|QLi 4 I<|Vv (ι:=QKa p.sh.toNat) [(2,_),(8,_),(89,_),(90,_)] (λk=>[(13,k.v),(91,.int .i64 ((k.i:Nat):Int))]) (λk=>(b8,.cells [i.nv,rR.v,rS.v].toArray 41 (0,0))::(b2,.cells [.slice none 0 0,.slice none 0 0,.slice none 0 0].toArray 41 (0,0))::k.ob) (λk F=>AmP F (vX p) k.i k.rl) (λk=>p.sh.toNat-k.i) (⟨0,.slice none 0 0,[],[],Nat.zero_le _,.nil,rfl⟩) wW wU QJ3 (λF _ k hk=>absurd hk (Nat.not_lt_zero _)) λk=>?_
 have hk:=k.le;have hkl:=k.ll;refine wA 6 I ?_;refine QL I (λhc2=>?_) λhc2=>?_
 ·have hlk:k.i<p.sh.toNat:=wm<|QK8 hc2
  refine QLj 6 I<|QA (Qo (n:=p.sh.toNat) (k.i) (λF h9=>h9.1.1.1.1.1.1.1.1.1.2.2.1.row) rfl rfl K3 Yr O)<|QA (Qg (n:=p.sh.toNat) ((k.i)*1) (λF h9=>h9.1.1.1.1.1.1.1.1.1.2.2.1.row) O rfl Yr (ZF (f:=(λe:BB=>e.1.v)) (l:=c23.xs) O))<|QLi 6 I<|QJ I (λ_ _ f h=>ue (y:=(el (vX p) k.i).1) (k:=(el (vX p) k.i).2) f h.1.1.1.1.1.1.1.1.1.1.1.1.1 (h.1.1.1.1.1.1.1.1.1.2.2.1.pl _ hlk) (hsm.1 _ (Ql (show k.i<(vX p).length by omega))).k (Nat.le_trans (hsm.1 _ (Ql (show k.i<(vX p).length by omega))).y wv)) λc97=>Qw I (JR KW) YY vB I I λb98=>?_
  refine Zj (bs1:=[_,_]) (ob:=k.ob) (n:=k.i) (k:=1) (sz:=1) (news:=[.slice c97.1.q c97.1.n c97.1.cap]) I I KW YY vB I yJ k.hr (Src.row (off:=0) tE (λj q hq=>by rw[Nat.zero_add];rw[List.getElem?_toArray];exact hq) rfl) O O (by intro v hv;rw[List.mem_singleton.1 hv];rfl) (λv99 ob99 hr99=>?_);refine wB 2 I<|Qa<|QC<|QB<|QA (Qk I I O)<|wB 2 I ?_
  exact Qb (⟨k.i+1,v99,ob99,k.rl++[c97],hlk,by rw[List.map_append];exact hr99,by rw[List.length_append,k.ll];rfl⟩) (by show p.sh.toNat-(k.i+1)<p.sh.toNat-k.i;omega) wY QJ3 λF ⟨⟨⟨⟨⟨⟨⟨⟨⟨⟨⟨⟨⟨⟨⟨hGl,hP⟩,hz1⟩,_⟩,h23⟩,_⟩,_⟩,hs34⟩,_⟩,hR⟩,hrowR⟩,_⟩,hrowS⟩,hK⟩,h97⟩,hs98⟩=>⟨⟨⟨⟨⟨⟨⟨⟨⟨⟨⟨⟨⟨hGl,hP⟩,hz1⟩,trivial⟩,h23⟩,trivial⟩,trivial⟩,hs34⟩,trivial⟩,hR⟩,hrowR⟩,trivial⟩,hrowS⟩,AmP.next k.ll hK h97⟩
 have hgk:k.i=p.sh.toNat:=by have:=QK9 hc2;have:=k.le;omega
 refine Q7 ?_;refine QG ?_;obtain⟨rK,hvK,hnK,hcK,hfixK⟩:=Qp.fix (w0:=w) (F0:=F) (bs1:=_::_::[]) (G:=_) k.hr;refine Hh hfixK ?_;rw[hvK];refine QB<|QA (wI I UR .here)<|QJj I<|QS (vs:=[_,_,_]) I I I UR I .u1 .h3 ⟨i.hn.one.1,rfl,rfl,trivial⟩<|QLi 5 I ?_
 exact J7 (⟨i.nv,rR,i.rl,rS,rK,k.rl⟩) I (.J4 (c:=[_,_,_]) I UR .u1 (wP I I)) (rfl) λF h9=>⟨⟨by show Qu F rR.q rR.n 1 _;rw[hnR];exact h9.1.1.1.1.2,by rw[i.ll,hnR],by rw[hl1,hnR,hge],by rw[hnR];exact h9.1.1.1.1.1.2⟩,by rw[hnS];have:=h9.1.1.2;rw[hgj,List.take_length]at this;rw[hgj];exact this,by rw[hnS,hgj],⟨by show Qu F rK.q rK.n 1 _;rw[hnK];exact h9.2,by rw[k.ll,hnK],by rw[hl2,hnK,hgk],by rw[hnK];exact h9.1.2⟩,by rw[hnR,hge],by rw[hnK,hgk],i.hn.one⟩
section
open Go Go.RowKit Ig
section
variable{F:Fence}{P:Program}{md:Region.Mode}{ops:Array Oper}{Q:Exit->Act->World->Prop}
def Open.opAt(hF:Open F)(hQ:¬LetsOut Q)(hd:WZ ops.toList=true){i:Nat}{K K':Act->World->Prop}{a:Act}{w:World}(hK:∀a w,K a w->K' a w)(h:wpOp P ops Q i K a w):wpOpIn F 0 P ops Q i K' a w:=by
 unfold wpOp at h;unfold wpOpIn;split
 ·rename_i e;rw[e]at h;exact hK _ _ h
 rename_i o e;rw[e]at h;have hm:o∈ops.toList:=by
  obtain⟨hi,e2⟩:=Array.getElem?_eq_some_iff.1 e;rw[<-e2];exact Array.mem_toList_iff.2 (Array.getElem_mem hi)
 have hnd:=PG (List.all_eq_true.1 hd o hm);dsimp only at h ⊢;split
 ·rename_i hw;rw[if_pos hw]at h;rcases h with h | ⟨_,h⟩
  ·exact hF.op hnd (λ_ _ _ h=>h) (λ_ _ h=>h) hK h
  exact absurd h hQ
 rename_i hw;rw[if_neg hw]at h;exact⟨λf _=>hF.fn f,hK _ _ h⟩
theorem Open.any(hF:Open F)(hQ:¬LetsOut Q)(hd:WZ ops.toList=true):∀(f:Nat) (listed:Array Bool) (a:Act) (w:World),wpAny P md ops Q f listed a w->wpAnyIn F 0 P md ops Q f listed a w
 |0,_,_,_,h=>h
 |f+1,_,_,_,h=>⟨h.1,λi hi=>hF.opAt hQ hd (λa w h=>hF.any hQ hd f _ a w h) (h.2 i hi)⟩
end
section
variable[Dr][df:Df]{F:Fence}{P:Program}{Q:Exit->Act->World->Prop}{N:Nat}{m:Sl}{w0:World}{F0:Gs}{bs bs0:List (Nat×Obj)}{G:Gs->Prop}{id:Nat}{l:List Oper}
theorem y9(hF:Open F)(hQ:¬LetsOut Q)(hd:WZ l=true)(n:Nat)(hb0:bs0.Sublist bs)(hm:P.follows .mixedOrders=true)(hB:EA l n=true)(hB2:lexB .any (l.take n)=true)
  (h:JD P (l.take n).toArray (XM λa w=>wpList P l.toArray Q (l.drop n) a w) ⟨w0,F0,bs0,G⟩ (l.take n) N m ⟨w0,F0,bs,G⟩):JI F P (.region id l.toArray true) Q N m ⟨w0,F0,bs,G⟩:=λa w ha hw=>by
 have hB':=hB;simp[EA,Bool.and_eq_true,decide_eq_true_eq]at hB';obtain⟨⟨⟨⟨⟨hn,hs⟩,hc⟩,ho⟩,hg⟩,hseq⟩:=hB';refine wpIn_region_any hm (hF.any hQ hd _ _ _ _ ?_);have h0:=GV hB2 (λc a w h=>h) (hw.drew.imp hb0 λ_ h=>h) (h (λ_ h=>h.imp hb0 λ_ h=>h) a _ ha hw.drew);rw[show(l.take n).length=n by grind]at h0;have h1:=KP (Q':=qF P l.toArray Q (l.drop n)) (λe a w h=>by cases e<;>first | exact h | trivial) _ _ _ _ h0;have QA8:HeadInv .any l.toArray n (Array.replicate l.toArray.size false) :=
  ⟨w9,λj oj _ hl=>(by grind [getD_replicate_false]),λt _ ht=>getD_in (by simp_all) (getD_replicate_false _ _)⟩
 have:=RG hn hs hc ho hg hseq n _ _ a { w with drawn:=w.drawn+1 } QA8 w9
  (λi hi=>by
   have h1:i<l.length:=O;simp_all) h1
 grind
end
end
section
variable[Dr][df:Df]{P:Program}{Q:Exit->Act->World->Prop}{c:Code}{N:Nat}{m:Sl}{E E':Env}
theorem QIS(h:∀w,St E w->St E' w)(k:J P c Q N m E'):J P c Q N m E:=λa w ha hw=>k a w ha (h w hw)
end
def uN(r:Rat):XH (B3 r)=XH r:=by unfold B3;split<;>simp[RJ]
def kC{r:Rat}(h:r≠0):(B3 r).num≠0:=λe=>by
 have e2:=Rat.num_eq_zero.1 e;unfold B3 at e2;split at e2
 ·apply h;rw[<-Rat.neg_neg (a:=r),e2];rfl
 exact h e2
def zh(us:List Xe)(ts:List FU)(m:Nat):Rat:=KV (el ts m).2/B3 (Jc (el (Dp us) m).r)
def fcL(us:List Xe)(ts:List FU)(j:Nat):List Rat:=(List.range j).map (zh us ts)
def QEi(us:List Xe)(ts:List FU)(j:Nat):fcL us ts (j+1)=fcL us ts j++[zh us ts j]:=by unfold fcL;rw[List.range_succ,List.map_append];rfl
def QH6{j:Nat}(h:k<j):el (fcL us ts j) k=zh us ts k:=by
 rw[J8 (by simpa[fcL]using h)];simp[fcL]
structure FcS where
 v:Value
 ob:List (Nat×Obj)
 xs:List (Fr×Rat)
 hr:Qp 77 4 v xs.length (H7 xs) ob
theorem QBD{p:ZL}{n:Nat}(hF:Fits F w)(hGl:JZ F)(hP:KO F p)(hL:qB p)(h0:KL p=0)(hT:Tu F q n ts)(hok:∀e∈ts,jR e.2=0)(hn:(Dp p.ul).length=ts.length)(hnb:n<=1000000)(hfn:∀u∈p.ul,u.fl.length=u.fd.n/\u.fd.n<=1000000)
  (hfeed:∀f∈Dp p.ul,Q9 f.r=0/\Jc f.r≠0/\XH (Jc f.r)<=1000/\f.r.length<=1000000):QQ prog 9 [p.v,.slice q n c] w F (λ(r:Sr)=>.tuple #[r.v,.int .i64 0]) (λr F=>Qu F r.q r.n 1 (((fcL p.ul ts (Dp p.ul).length).map Q6).map tx)/\r.n=(Dp p.ul).length/\r.n<=r.cap):=by
 have LU:=hP.MK;have hun:=hL.un;have hlen:=hT.len;refine QQ.zQ (G:=λF=>JZ F/\KO F p/\Tu F q n ts) func9 I w8 rfl rfl hF (λF' hF'=>⟨hGl.le hF',hP.le hF',hT.le hF'⟩)<|QKt<|Q8 I (vs:=[_,_,_]) I λb2=>Q8 I (vs:=[_]) I λb3=>QLi 6 I<|Jf (b:=b2) .u1<|Jf (b:=b3) .here<|QB<|QA (JG (n:=1) (vs:=[Qs p.sh,.slice p.un.q p.un.n p.un.cap,.slice p.ot.q p.ot.n p.ot.cap]) ((0)*3) (λF h9=>(Qu.of (n:=1) (sz:=3) h9.1.2 I)) O rfl Zf I λj v hv=>by simpa using hv)<|QA (Qg (n:=1) ((0)*1) (λF h9=>(Qu.of (n:=1) (sz:=1) h9.2 I)) O rfl QGh I)<|QJ I (λ_ _ f k=>Ao f k.1.1.1 k.1.1.2.1 hL h0 k.1.1.2.2 hok hn hnb hfn) λ_=>QLi 9 I ?_
 refine QL I (λhc2=>?_) λhc2=>?_
 ·exact absurd hc2 (wv)
 refine QLj 4 I<|Qe QIk λb7=>QLi 5 I<|QA (JG (n:=1) (vs:=[Qs p.sh,.slice p.un.q p.un.n p.un.cap,.slice p.ot.q p.ot.n p.ot.cap]) ((0)*3) (λF h9=>(Qu.of (n:=1) (sz:=3) h9.1.1.2 I)) O rfl Zf I λj v hv=>by simpa using hv)<|QJ I (λ_ _ f k=>cJ (p:=p) f) λc16=>QJi<|QO<|QAC (λG hG=>?_)
 have hfa:∀F,G F->F c16=some (#[Qs p.sh,.slice p.un.q p.un.n p.un.cap,.slice p.ot.q p.ot.n p.ot.cap],25)/\KO F p:=λF h=>by
  obtain⟨⟨⟨⟨⟨hGl,hP,hT⟩,hz2⟩,hz3⟩,_⟩,h16⟩:=hG F h;exact⟨h16,hP⟩
 have hfb:∀F,G F->F b3=some (#[.slice q n c],26)/\Tu F q n ts/\JZ F:=λF h=>by
  obtain⟨⟨⟨⟨⟨hGl,hP,hT⟩,hz2⟩,hz3⟩,_⟩,h16⟩:=hG F h;exact⟨hz3,hT,hGl⟩
 refine RV (ι:=FcS) (λs=>[(b7,.cells [s.v].toArray 72 (0,0))]++s.ob) (λs F=>BA F s.xs) (λs=>s.xs.length=(Dp p.ul).length/\s.xs.map (·.2)=fcL p.ul ts (Dp p.ul).length) rfl (enters_of func73 w8 rfl) (λL D rr W hrec hst=>?_) λD s hs=>?_
 ·have hm:=kZ (ι:=FcS) (w0:=w) (F0:=F) (B:=λs=>(L,.loop rr)::(D,.deferred (some []))::([(b7,.cells [s.v].toArray 72 (0,0))]++s.ob)) (H:=λs F=>G F/\BA F s.xs) (P:=λj s=>s.xs.length=j/\s.xs.map (·.2)=fcL p.ul ts j) (p:=p) (b1:=c16) (L:=L) (λs F h=>hfa F h.1) LU hun hfn (λG' s j f W hf hj hp hst=>?_) ⟨.slice none 0 0,[],[],.nil⟩ ⟨rfl,rfl⟩
  ·refine(hm.2 W (hst.Bs λF h=>⟨h,λ_ h=>by cases h⟩)).mono ?_;rintro e w' ⟨s,rfl,h⟩;exact⟨⟨_,rfl⟩,s.1,s.2,h⟩
  letI:Df:=KB;obtain⟨rfl,hp2⟩:=hp;have hem:=Ql (show s.xs.length<ts.length by omega);have hfm:f∈Dp p.ul:=hf ▸ Ql hj;have hfr:=hfeed _ hfm;have hzt:=NX (OW.of (hok _ hem));have hzr:=Xt hfr.1;have hzs:=uN (Jc f.r);have hzn:=kC hfr.2.1;refine Nj hst .here (by rw[hrec.params];rfl) (RO hrec _ wv) ?_;rw[hrec.assign,hrec.body];refine DB (W7 L) (λ⟨_,_,h⟩=>h) rfl<|Qe yi λb8=>QS (vs:=[_,_]) I I I YC I .here .h2 wU<|QF<|Oe .u1 hrec.state<|FR<|y9 (W7 L) (λ⟨_,_,h⟩=>h) rfl 13 (.cons_cons _ (.cons_cons _ (.cons_cons _ (.cons_cons _ tG)))) mixed wu wu ?_
  simp only[List.take_succ_cons,List.take_zero,List.drop_succ_cons,List.drop_zero];refine QI (Qf I kA .u3 .h1)<|QI (Eo (c:=#[.slice q n c]) (T':=26) rfl QGh (λF h9=>(hfb _ h9.2.1).1) rfl)<|QI (Qf I kA .u3 .h1)<|QI (PB I s.hr We)<|QI (Qo (n:=n) (s.xs.length) (λF h9=>(hfb _ h9.2.1).2.1.row) rfl rfl Ue LX O)<|QI (Qg (n:=n) ((s.xs.length)*1) (λF h9=>(hfb _ h9.2.1).2.1.row) O rfl LX (ZF (f:=λe:FU=>e.1.v) (l:=ts) O))<|QV I (λ_ _ f k=>zX (l:=(el ts s.xs.length).2) f ((hfb _ k.2.1).2.1.tr _ hem).1 ((hfb _ k.2.1).2.1.tr _ hem).2 (OW.of (hok _ hem))) λc24=>QI (QH I Gc JP)<|QI (Qf I JP .here (.skip .h1))<|QV I (λ_ _ g k=>QF9 (a:=f.r) g (hfb _ k.1.2.1).2.2 hfr.1 hfr.2.2.2) λc27=>QV I (λ_ _ f k=>QEe f k.1.2 k.2 hzn O O) λc28=>?_
  refine Jp I (JR We) JA VU I I (λb29=>?_) (λw h=>h.imp (.cons_cons _ (.cons_cons _ (.cons_cons _ (.cons_cons _ tG)))) λF h=>h.1.1.1);refine Km (List.perm_append_comm (l₁:=[_,_,_,_])) ?_;refine Kn (n:=s.xs.length) (k:=1) (sz:=4) (news:=S2 c28) rfl rfl We JA VU I QCN s.hr (Src.row (off:=0) tE (λj q hq=>by rw[Nat.zero_add];rw[List.getElem?_toArray];exact hq) rfl) O O (cO _) QJ3 (λ_ h=>h.1.1.1.1) (λv30 ob30 hr30=>?_);refine Km (List.perm_append_comm (l₂:=[_,_,_,_]))<|X1<|QS (vs:=[_]) I I hr30.one.2 kA I .u3 .h1 ⟨hr30.one.1,trivial⟩<|QF<|Qa ?_
  refine Od .u1 (λw1 hw1=>⟨rfl,⟨v30,ob30,s.xs++[(c28,zh p.ul ts s.xs.length)],by rw[List.length_append];unfold H7 at hr30 ⊢;rw[List.flatMap_append];simpa using hr30⟩,⟨by rw[List.length_append];rfl,by rw[List.map_append,hp2,QEi];rfl⟩,?_⟩);rw[N4 hrec]at hw1;refine St.imp hw1 (.cons _ QJ3) λF h9=>⟨h9.1.1.1.1.1,h9.1.1.1.1.2.1,h9.1.1.1.1.2.2.snoc (by unfold zh;rw[hf];exact h9.1.2)⟩
 letI:Df:=Vz D;obtain⟨hs1,hs2⟩:=hs;have hsz:∀e∈s.xs,XH e.2<=1900:=λe he=>by
  have hx:=List.mem_map_of_mem (f:=λe:Fr×Rat=>e.2) he;rw[hs2]at hx;obtain⟨m,hm,e1⟩:=List.mem_map.1 hx;have hm:=List.mem_range.1 hm;rw[<-e1];have hem:=Ql (show m<ts.length by omega);have hfr:=hfeed _ (Ql hm);have h1:=vO (x:=KV (el ts m).2) (kC hfr.2.1);have h2:=NX (OW.of (hok _ hem));have h3:=uN (Jc (el (Dp p.ul) m).r);unfold zh;omega
 refine Qa<|QLk 3 I ?_
 obtain⟨⟨rq,rn,rc⟩,hvv,hvn,hvc,hfixv⟩:=Qp.fix (w0:=w) (F0:=F) (bs1:=[_,_]) (G:=_) s.hr;dsimp only at hvn hvc hfixv;subst hvn;refine QIS hfixv ?_;rw[hvv];dsimp only[Sr.v];refine QB<|QA (Qf I kA .u1 .h1)<|QJ I (λw F g q=>cV (f:=32) (c1:=[]) (c2:=[]) (p:=λe=>Xo e.2) (G0:=λF=>JZ F/\BA F s.xs) g (λF F' k h=>⟨h.1.le k,h.2.le k⟩) ⟨(hfb _ q.1.1).2.2,q.1.2⟩ q.2 I O λe he w F g h=>Sb g h.1 (h.2 e he) (wm<|hsz e he)) λ_=>QF<|QC ?_
 refine QL I (λhc2=>?_) λhc2=>?_
 ·exact absurd hc2 ((by rw[List.any_eq_false.2 λe he=>by rw[zM (wm<|hsz e he)];decide];decide))
 refine QLj 4 I<|QA (Qf I kA .u1 .h1)<|QJ I (λ_ _ f k=>xi (xs:=s.xs) f (hfb _ k.1.1.1).2.2 k.1.2 k.1.1.2 I O λe he=>wm<|hsz e he) λc34=>QLi 5 I<|C8 .here ?_
 letI:Df:=KB;exact J7 (c34) rfl (wP I I) (rfl) (λF ⟨⟨⟨⟨hGs,hXs⟩,hrow⟩,_⟩,h34⟩=>by
  have e:yp s.xs=(fcL p.ul ts (Dp p.ul).length).map Q6:=by rw[<-hs2];unfold yp;rw[List.map_map];rfl
  rw[<-e,<-hs1];exact h34)
def AM{s:List UInt8}(h:Q9 s=0):s.length<=1000000:=by
 have h1:=Hq (Jc s);have h2:=Xt h;rw[<-(Xa h).1]at h1;omega
def ui{p:ZL}(h:KL p=0):p.ol.length<=24:=by
 unfold KL at h;split at h
 ·cases h
 split at h
 ·cases h
 split at h
 ·contradiction
 split at h
 ·cases h
 omega
theorem qB.of{p:ZL}(hP:KO F p)(h0:KL p=0)(hn:p.ul.length<=1000000):qB p:=by
 have hV:=RE.of h0;refine⟨wm hP.MK,by have:=hP.QEH;have:=ui h0;omega,λu hu=>?_⟩;have h:=hV.us u hu;have h1:=Z5 h;have h2:=Hm h;have h3:=(hP.us _ hu).MQ;have h4:=(hP.us _ hu).RA;exact⟨O,O,AM h.st,λf hf=>AM (h.fd f hf).2.1,λa ha=>AM (h.cv a ha)⟩
structure RfF(p:ZL) where
 i:Nat
 v:Value
 ob:List (Nat×Obj)
 l:List (List UInt8)
 le:i<=p.ul.length
 ll:l.length=D3 p.ul i
 hr:Qp 45 1 v (D3 p.ul i) (l.map tx) ob
structure RgF(p:ZL)(i:Nat) where
 k:Nat
 v:Value
 ob:List (Nat×Obj)
 l:List (List UInt8)
 le:k<=(el p.ul i).fl.length
 ll:l.length=D3 p.ul i+k
 hr:Qp 45 1 v (D3 p.ul i+k) (l.map tx) ob
structure QKj(p:ZL) where
 i:Nat
 le:i<=p.ul.length
 ok:∀u∈p.ul.take i,u.kd=Vj/\(el u.fl 1).k=0
structure QKX(ts:List FU) where
 i:Nat
 le:i<=ts.length
 ok:∀e∈ts.take i,jR e.2=0
def QDB{sh:Int}{u:Xe}(h:WV sh u)(hk:u.kd=Vj):u.fl.length=2:=(h.two hk).1
theorem QCq{p:ZL}(hF:Fits F w)(hP:KO F p)(hun:p.un.n<=1000)(hfn:∀u∈p.ul,u.fl.length<=8):QQ prog 6 [p.v] w F (λ(c:Sr)=>c.v) (λc F=>c.n=(Dp p.ul).length):=by
 have LU:=hP.MK;have hof:∀i,i<=p.ul.length->D3 p.ul i<=8*i:=λi=>by
  induction i with
  |zero=>intro _;unfold D3;simp
  |succ i ih=>intro h;rw[Nf h];have:=ih O;have:=hfn _ (Ql (show i<p.ul.length from h));omega
 refine QQ.go (G:=λF=>KO F p) func6 hF hP ?_;refine QKt<|Q8 I (vs:=[_,_,_]) I λb1=>wR I<|QG<|Jf (b:=b1) .here<|QLj 11 I<|Vv (ι:=RfF p) [(1,_)] (λi=>[(3,i.v),(4,.int .i64 ((i.i:Nat):Int))]) (λi=>i.ob) (λi F=>True) (λi=>p.ul.length-i.i) (⟨0,.slice none 0 0,[],[],Nat.zero_le _,by unfold D3;simp,by unfold D3;exact .nil⟩) wT wU QJ3 tB λi=>?_
 have hi:=i.le;refine wA 4 I<|QA (QH I XS Jj)<|QA (Qg (n:=1) ((0)*3+1) (λF h9=>(Qu.of (n:=1) (sz:=3) h9.1.2 I)) O rfl Jj I)<|QA (QW I Xr)<|QLi 3 I ?_
 refine QL I (λhc2=>?_) λhc2=>?_
 ·have hlt:i.i<p.ul.length:=wm<|QK8 hc2
  have hum:=Ql hlt;have hfu:=hfn _ hum;have hfl:=(hP.us _ hum).MQ;refine QLj 10 I<|Vv (ι:=RgF p i.i) [(1,_),(4,_)] (λk=>[(3,k.v),(5,.int .i64 ((k.k:Nat):Int))]) (λk=>k.ob) (λk F=>True) (λk=>(el p.ul i.i).fl.length-k.k) (⟨0,i.v,i.ob,i.l,Nat.zero_le _,i.ll,i.hr⟩) wU wU QJ3 tB λk=>?_
  have hk:=k.le;have ho1:=hof i.i O;refine wA 4 I<|QA (QH I XS Jj)<|QA (Qg (n:=1) ((0)*3+1) (λF h9=>(Qu.of (n:=1) (sz:=3) h9.1.1.2 I)) O rfl Jj I)<|QJj I<|QA (Qo (n:=p.un.n) i.i (λF h9=>h9.1.1.1.un) rfl rfl Xr XJ O)<|QA (QH I ZV XK)<|QA (Qg (n:=p.un.n) ((i.i)*5+1) (λF h9=>h9.1.1.1.un) O rfl XK (Q4 (f:=MJ) (l:=p.ul) ZO O rfl))<|QA (QW I Zz)<|QLi 3 I ?_
  refine QL I (λhc2=>?_) λhc2=>?_
  ·have hlk:k.k<(el p.ul i.i).fl.length:=wm<|QK8 hc2
   refine QLj 6 I<|QA (QH I XS Jj)<|QA (Qg (n:=1) ((0)*3+1) (λF h9=>(Qu.of (n:=1) (sz:=3) h9.1.1.2 I)) O rfl Jj I)<|QJj I<|QA (Qo (n:=p.un.n) i.i (λF h9=>h9.1.1.1.un) rfl rfl Xr XJ O)<|QA (QH I ZV XK)<|QA (Qg (n:=p.un.n) ((i.i)*5+1) (λF h9=>h9.1.1.1.un) O rfl XK (Q4 (f:=MJ) (l:=p.ul) ZO O rfl))<|QJj I<|QA (Qo (n:=(el p.ul i.i).fd.n) (k.k) (λF h9=>((h9.1.1.1.us _ (Ql (show i.i<p.ul.length from O)))).fd) rfl rfl Zz YC O)<|QA (QH I Gc JP)<|QA (Qg (n:=(el p.ul i.i).fd.n) ((k.k)*2+1) (λF h9=>((h9.1.1.1.us _ (Ql (show i.i<p.ul.length from O)))).fd) O rfl JP (Q4 (f:=BV) (l:=(el p.ul i.i).fl) Zw O rfl))<|Qw I (JR YI) JP yk I I λb35=>?_
   refine Zj (bs1:=[]) (ob:=k.ob) (n:=D3 p.ul i.i+k.k) (k:=1) (sz:=1) (news:=[tx (el (el p.ul i.i).fl k.k).r]) I I YI JP yk I kj k.hr (Src.row (off:=0) tE (λj q hq=>by rw[Nat.zero_add];rw[List.getElem?_toArray];exact hq) rfl) O O (by intro v hv;rw[List.mem_singleton.1 hv];rfl) (λv36 ob36 hr36=>?_);refine wB 2 I<|Qa<|QLk 3 I<|QA (Qk I I O)<|wB 2 I ?_
   exact Qb (⟨k.k+1,v36,ob36,k.l++[(el (el p.ul i.i).fl k.k).r],hlk,by rw[List.length_append,k.ll];rfl,by rw[List.map_append];exact hr36⟩) (by show(el p.ul i.i).fl.length-(k.k+1)<(el p.ul i.i).fl.length-k.k;omega) wW QJ3 λF h=>⟨h.1.1,trivial⟩
  have hgk:k.k=(el p.ul i.i).fl.length:=by have:=QK9 hc2;have:=k.le;omega
  refine Q7 ?_;refine wA 2 I<|QA (Qk I I O)<|wB 2 I ?_
  exact Qb (⟨i.i+1,k.v,k.ob,k.l,hlt,by rw[Nf hlt,k.ll,hgk],by rw[Nf hlt];have:=k.hr;rwa [hgk]at this⟩) (by show p.ul.length-(i.i+1)<p.ul.length-i.i;omega) wV QJ3 λF h=>⟨h.1.1,trivial⟩
 have hge:i.i=p.ul.length:=by have:=QK9 hc2;have:=i.le;omega
 refine Q7 ?_;refine QG ?_;obtain⟨rr,hvr,hnr,hcr,hfix⟩:=Qp.fix (w0:=w) (F0:=F) (bs1:=[]) (G:=_) i.hr;refine Hh hfix ?_;rw[hvr];refine QLj 6 I ?_;exact QM (rr) rfl (wO I) (rfl) λ_ _=>by rw[hnr,hge,OT]
theorem QDk{p:ZL}(hF:Fits F w)(hP:KO F p)(hL:k6 p):QQ prog 4 [p.v] w F (λ(b:Bool)=>.bool b) (λb F=>b=true->UH p 5/\∀u∈p.ul,u.kd=Vj/\(el u.fl 1).k=0):=by
 have LU:=hP.MK;refine QQ.go (G:=λF=>KO F p) func4 hF hP ?_;refine QKt<|Q8 I (vs:=[_,_,_]) I λb1=>QLi 5 I<|Jf (b:=b1) .here<|QB<|QA (JG (n:=1) (vs:=[Qs p.sh,.slice p.un.q p.un.n p.un.cap,.slice p.ot.q p.ot.n p.ot.cap]) ((0)*3) (λF h9=>(Qu.of (n:=1) (sz:=3) h9.2 I)) O rfl Zf I λj v hv=>by simpa using hv)<|QJ I (λ_ _ f k=>QDy (n:=5) f k.1 hL wv) λc5=>JM _ (λ_ _ f k=>k.2) λhm5=>QA (YD I)<|QF<|QC ?_
 refine QL I (λhc2=>?_) λhc2=>?_
 ·refine wA 6 I ?_;exact QM (false) rfl (wO rfl) (rfl) λF ⟨⟨hP,hz1⟩,_⟩ h=>by cases h
 have hM:=hm5 (by simpa using hc2);have hV:=hM.v;have hun:=hM.un;refine QLj 5 I<|QA (QH rfl XS Jj)<|QA (Qg (n:=1) ((0)*3+1) (λF h9=>(Qu.of (n:=1) (sz:=3) h9.1.2 rfl)) O rfl Jj rfl)<|QA (QW rfl Xr)<|QJj rfl<|QJi<|QO<|Jo (ι:=QKj p) [(1,_),(9,_)] (λi=>[(10,.int .i64 ((i.i:Nat):Int))]) (λi=>p.ul.length-i.i) (⟨0,Nat.zero_le _,λu h=>by cases h⟩) wU wT λi=>?_
 have hi:=i.le;refine wA 6 I ?_;refine QL I (λhc2=>?_) λhc2=>?_
 ·have hlt:i.i<p.ul.length:=wm<|QK8 hc2
  have hum:=Ql hlt;have hfl:=(hP.us _ hum).MQ;refine QLj 12 I<|QA (QH I XS Jj)<|QA (Qg (n:=1) ((0)*3+1) (λF h9=>(Qu.of (n:=1) (sz:=3) h9.1.2 I)) O rfl Jj I)<|QJj I<|QA (Qo (n:=p.un.n) i.i (λF h9=>h9.1.1.un) rfl rfl Xr XJ O)<|QA (QH I Ks YZ)<|QA (Qg (n:=p.un.n) ((i.i)*5+0) (λF h9=>h9.1.1.un) O rfl YZ (Q4 (f:=MJ) (l:=p.ul) ZO O rfl))<|QA (PA I I)<|QJj I ?_
  refine Qn (t:=20) rfl (λhb20=>?_) λhb20=>?_
  ·refine QLi 13 I<|ZB I<|wA 5 I<|X6 ?_
   exact QM (false) rfl (wO rfl) (rfl) λF ⟨⟨hP,hz1⟩,_⟩ h=>by cases h
  have hkd:(el p.ul i.i).kd=Vj:=by simpa[Vj]using hb20
  have hf2:=QDB (hV.us _ hum) hkd;refine QP I I<|QA (QH I XS Jj)<|QP I I<|QA (Qg (n:=1) ((0)*3+1) (λF h9=>(Qu.of (n:=1) (sz:=3) h9.1.2 I)) O rfl Jj I)<|wB 3 I<|QA (Qo (n:=p.un.n) i.i (λF h9=>h9.1.1.un) rfl rfl Xr XJ O)<|QP I I<|QA (QH I ZV XK)<|QP I I<|QA (Qg (n:=p.un.n) ((i.i)*5+1) (λF h9=>h9.1.1.un) O rfl XK (Q4 (f:=MJ) (l:=p.ul) ZO O rfl))<|QP I I<|QA (Qo (n:=(el p.ul i.i).fd.n) (1) (λF h9=>((h9.1.1.us _ (Ql (show i.i<p.ul.length from O)))).fd) rfl wN Zz YC O)<|QP I I<|QA (QH I GB QZ)<|QP I I<|QA (Qg (n:=(el p.ul i.i).fd.n) ((1)*2+0) (λF h9=>((h9.1.1.us _ (Ql (show i.i<p.ul.length from O)))).fd) O rfl QZ (Q4 (f:=BV) (l:=(el p.ul i.i).fl) Zw O rfl))<|QLi 5 I ?_
  refine QL I (λhc2=>?_) λhc2=>?_
  ·refine wA 5 I<|X6 ?_
   exact QM (false) rfl (wO rfl) (rfl) λF ⟨⟨hP,hz1⟩,_⟩ h=>by cases h
  refine QK<|Qa<|QC<|QB<|QA (Qk I I O)<|wB 2 I ?_
  exact Qb (⟨i.i+1,hlt,λu hu=>by
   rw[XF hlt]at hu;rcases List.mem_append.1 hu with h | h
   ·exact i.ok u h
   rw[List.mem_singleton.1 h];exact⟨hkd,by simpa using hc2⟩⟩) (by show p.ul.length-(i.i+1)<p.ul.length-i.i;omega) wV QJ3 tC
 have hge:p.ul.length<=i.i:=wm<|QK9 hc2
 refine Q7 ?_;refine wA 6 I ?_;exact QM (true) rfl (wO I) (rfl) λF ⟨⟨hP,hz1⟩,_⟩ _=>⟨hM,λu hu=>i.ok u (by rw[List.take_of_length_le hge];exact hu)⟩
theorem QCh{n:Nat}(hF:Fits F w)(hT:Tu F q n ts)(hn:n<=9223372036854775807)(hb:∀e∈ts,e.1.n<=9223372036854775807):QQ prog 5 [.slice q n c] w F (λ(b:Bool)=>.bool b) (λb F=>b=true->ts.length<=12/\∀e∈ts,jR e.2=0):=by
 have hlen:=hT.len;refine QQ.go (G:=λF=>Tu F q n ts) func5 hF hT ?_;refine wA 9 I<|QA (QW I Ue)<|QLi 3 I ?_
 refine QL I (λhc2=>?_) λhc2=>?_
 ·refine wA 6 I ?_;exact QM (false) rfl (wO rfl) (rfl) λF hT h=>by cases h
 have h12:ts.length<=12:=wm<|QK9 hc2
 refine QLj 3 I<|wS rfl<|QA (QW rfl Ue)<|QJj rfl<|QJi<|QO<|Jo (ι:=QKX ts) [(0,_),(8,_)] (λi=>[(9,.int .i64 ((i.i:Nat):Int))]) (λi=>ts.length-i.i) (⟨0,Nat.zero_le _,λu h=>by cases h⟩) wU wT λi=>?_
 have hi:=i.le;refine wA 6 I ?_;refine QL I (λhc2=>?_) λhc2=>?_
 ·have hlt:i.i<ts.length:=wm<|QK8 hc2
  refine QLj 14 I<|QA (Qo (n:=n) i.i (λF hT=>hT.row) rfl rfl Ue LX O)<|QA (Qg (n:=n) ((i.i)*1) (λF hT=>hT.row) O rfl LX (ZF (f:=λe:FU=>e.1.v) (l:=ts) O))<|QJ I (λ_ _ f k=>vm f (k.tr _ (Ql hlt)).1 (k.tr _ (Ql hlt)).2 (hb _ (Ql hlt))) λ_=>QLi 3 I ?_
  refine QL I (λhc2=>?_) λhc2=>?_
  ·refine wA 5 I<|X6 ?_
   exact QM (false) rfl (wO rfl) (rfl) λF ⟨hT,_⟩ h=>by cases h
  refine QK<|Qa<|QC<|QB<|QA (Qk I I O)<|wB 2 I ?_
  exact Qb (⟨i.i+1,hlt,λu hu=>by
   rw[XF hlt]at hu;rcases List.mem_append.1 hu with h | h
   ·exact i.ok u h
   rw[List.mem_singleton.1 h];simpa using hc2⟩) (by show ts.length-(i.i+1)<ts.length-i.i;omega) wV QJ3 tD
 have hge:ts.length<=i.i:=wm<|QK9 hc2
 refine Q7 ?_;refine wA 6 I ?_;exact QM (true) rfl (wO I) (rfl) λF hT _=>⟨h12,λu hu=>i.ok u (by rw[List.take_of_length_le hge];exact hu)⟩
theorem QBs{r:Rat}(h:r≠0):B3 r≠0:=by
 unfold B3;split
 ·intro e;apply h;grind
 exact h
theorem uM{r x:Rat}(h:r≠0):r*(x/B3 r)=Ui r x:=by
 have h1:x/B3 r*B3 r=x:=Rat.div_mul_cancel (QBs h);unfold Ui;by_cases g:r<0
 ·have e:B3 r = -r:=if_pos g;rw[if_pos g,e]at *
  grind
 have e:B3 r=r:=if_neg g;rw[if_neg g,e]at *
 grind
theorem QD0{r0 r1 x0 x1:Rat}(h0:r0≠0)(h1:r1≠0):r0*r1*(x0/B3 r0*(x1/B3 r1))=Ui r0 x0*Ui r1 x1:=by
 rw[<-uM h0,<-uM h1];grind
def QC0{p:ZL}(h:KL p=0):¬p.ol.any (P9 p.sh)=true:=by
 unfold KL at h;split at h
 ·cases h
 split at h
 ·cases h
 split at h
 ·contradiction
 split at h
 ·cases h
 split at h
 ·cases h
 assumption
def QCG{k:Int}:∀ {us vs:List Xe} {i:Nat},us.map Xe.ou=vs.map Xe.ou->Ew k us i=Ew k vs i
 |[],[],_,_=>rfl
 |[],_::_,_,h=>by cases h
 |_::_,[],_,h=>by cases h
 |u::us,v::vs,i,h=>by
  rw[List.map_cons,List.map_cons]at h;obtain⟨h1,h2⟩:=List.cons.inj h;rw[Ew,Ew,h1,QCG h2]
def QGQ{vs:List Xe}(h:us.map Xe.ou=vs.map Xe.ou)(k:Int):E3 us k=E3 vs k:=by
 have e:∀l:List Xe,E3 l k=(l.map Xe.ou).countP λo=>decide (o=k):=λl=>by
  rw[List.countP_map];rfl
 rw[e,e,h]
def xZ(h:∀u∈us,u.fl.length=2):∀ {i},i<=us.length->D3 us i=2*i
 |0,_=>by unfold D3;simp
 |i+1,hi=>by rw[Nf O,xZ h O,h _ (Ql O)];omega
structure qL(p:ZL):Prop where
 z:KL p=0
 n:p.ul.length<=5
 s:∀u∈p.ul,∀f∈u.fl,XH (Jc f.r)<=20
 k:∀u∈p.ul,u.kd=Vj/\(el u.fl 1).k=0
theorem qL.of{p:ZL}(m:UH p 5)(k:∀u∈p.ul,u.kd=Vj/\(el u.fl 1).k=0):qL p :=
 ⟨m.z,m.un,λu hu f hf=>Nat.le_trans (dZ ((m.us u hu).fl f hf) (z:=10) wv) wv,k⟩
def qL.v{p:ZL}(hp:qL p):RE p:=RE.of hp.z
section
variable{p q:ZL}{ts:List FU}(hp:qL p)
include hp
theorem qL.t:PlT p:=⟨hp.v,λu hu=>(hp.k u hu).1,λu hu=>(hp.k u hu).2,λu hu f hf=>Nat.le_trans (hp.s u hu f hf) wv⟩
theorem qL.two:∀u∈p.ul,u.fl.length=2:=λ_ hu=>(hp.t.two hu).1
theorem qL.al:(Dp p.ul).length=2*p.ul.length:=by rw[OT,xZ hp.two (Nat.le_refl _)]
theorem qL.fd:∀f∈Dp p.ul,Q9 f.r=0/\Jc f.r≠0/\XH (Jc f.r)<=1000/\f.r.length<=1000000:=λf hf=>by
 obtain⟨u,hu,hf⟩:=List.mem_flatMap.1 hf;have h1:=(hp.v.us u hu).fd f hf;have h2:=hp.t.z u hu f hf;exact⟨h1.2.1,h1.2.2,O,AM h1.2.1⟩
theorem qL.QG6(hi:i<p.ul.length)(hk:k<2):el (Dp p.ul) (2*i+k)=el (el p.ul i).fl k:=by
 have:=pM (us:=p.ul) hi (show k<(el p.ul i).fl.length by rw[hp.two _ (Ql hi)];exact hk)
 rwa [xZ hp.two O]at this
variable(hR:QCR p ts q)(hok:∀e∈ts,jR e.2=0)(hn:ts.length=2*p.ul.length)
include hR
theorem qL.ous:q.ul.map Xe.ou=p.ul.map Xe.ou:=by
 refine List.ext_getElem (by simp[hR.len]) λk h1 h2=>?_;have hk:k<p.ul.length:=by simpa using h2
 have:=(hR.us k hk).ou;rw[J8 (by rw[hR.len];exact hk),J8 hk]at this;simpa using this
theorem qL.idx(k:Int):Mq q.ul k=Mq p.ul k:=by unfold Mq BW;rw[QCG (hp.ous hR)]
include hok hn
theorem qL.fk(hi:i<p.ul.length)(hk:k<2):∃x:Rat,x≠0/\XH x<=73/\el (el q.ul i).fl k=⟨(el (el p.ul i).fl k).k,Q6 x⟩/\x=Ui (Jc (el (el p.ul i).fl k).r) (KV (el ts (2*i+k)).2):=by
 have hm:=hok _ (Ql (show 2*i+k<ts.length by omega));have ho:=OW.of hm;refine⟨_,?_,?_,?_,rfl⟩
 ·have h1:=Ou (l:=(el ts (2*i+k)).2) (a:=1) wv (λx hx=>⟨(ho.p x hx).1.1,(ho.p x hx).2.1⟩);change 0<KV _ at h1;unfold Ui;split
  ·intro e;grind
  intro e;grind
 ·rw[uB];exact NX ho
 rw[(hR.us i hi).fl,xh hk,if_pos hk]
theorem qL.unit(hi:i<p.ul.length):WV q.sh (el q.ul i)/\VM q.sh (el q.ul i)=0:=by
 have hu:=hR.us i hi;have hm:=Ql hi;have hU:=hp.v.us _ hm;have h2:=hp.t.two hm;have hl:(el q.ul i).fl.length=2:=by rw[hu.fl,Ef]
 have hkd:(el q.ul i).kd=Vj:=by rw[hu.kd];exact(hp.k _ hm).1
 have hf:∀f∈(el q.ul i).fl,WB q.sh f=0:=λf hf=>by
  obtain⟨k,hk,rfl⟩:=List.getElem_of_mem hf;rw[<-J8 hk];rw[hl]at hk;obtain⟨x,x0,xz,xe,_⟩:=hp.fk hR hok hn hi hk;have hb:=(hU.fd _ (Ql (show k<(el p.ul i).fl.length by rw[h2.1];exact hk))).1;rw[xe];unfold WB;dsimp only;rw[hR.sh,if_neg O,ER (Wv xz wv),if_neg wv,if_neg];intro e;have h3:=Ru x;rw[e,decide_eq_false x0]at h3;revert h3;decide
 have e:VM q.sh (el q.ul i)=0:=by
  have hsb:EB (el q.ul i)=true:=by
   unfold EB;rw[if_pos hkd,hl,hkd,if_neg PR.2.1,hu.cl,h2.2];rfl
  have hfz:Qz ((el q.ul i).fl.map (WB q.sh))=0:=Dc λx hx=>by
   obtain⟨f,hf2,rfl⟩:=List.mem_map.1 hx;exact hf f hf2
  have ho:=hU.ou;unfold VM;rw[if_neg (λh=>h (.inl hkd)),hsb,if_neg wv,hfz,if_neg wv,hu.ou,hR.sh,if_neg O,hu.st,hU.st,if_neg wv,hu.cl,h2.2];rfl
 exact⟨LW e,e⟩
theorem qL.kds:∀u∈q.ul,u.kd=Vj/\(el u.fl 1).k=0/\WV q.sh u:=λu hu=>by
 obtain⟨i,hi,rfl⟩:=List.getElem_of_mem hu;rw[hR.len]at hi;rw[<-J8];obtain⟨x,_,_,xe,_⟩:=hp.fk hR hok hn hi (k:=1) wv;exact⟨by rw[(hR.us i hi).kd];exact(hp.k _ (Ql hi)).1,by rw[xe];exact(hp.k _ (Ql hi)).2,(hp.unit hR hok hn hi).1⟩
theorem qL.e0:KL q=0:=by
 have hV:=hp.v;have h0:=hp.z;have hsh:=xO h0;have hk:=hp.kds hR hok hn;unfold KL;rw[hR.sh,if_neg O,hR.len,if_neg O,<-hR.sh,Dc (l:=q.ul.map (VM q.sh)) (λx hx=>by
  obtain⟨u,hu,rfl⟩:=List.mem_map.1 hx;obtain⟨i,hi,rfl⟩:=List.getElem_of_mem hu;rw[hR.len]at hi;rw[<-J8];exact(hp.unit hR hok hn hi).2),if_neg wv,hR.ol,if_neg (wm<|ui h0),hR.sh,if_neg (QC0 h0),if_neg,if_neg,if_neg,if_neg]
 ·intro h;obtain⟨u,hu,e⟩:=List.any_eq_true.1 h;unfold GQ at e;rw[(hk u hu).1]at e;revert e;rw[show(Vj==WR)=false from by decide];simp
 ·rw[kU (us:=q.ul) λu hu=>⟨uj (hk u hu).2.2 (hk u hu).1 (hk u hu).2.1,(hk u hu).2.2.ou.1⟩,cA,hR.len];omega
 ·intro h;have h1:=hV.dr;unfold LA yM at h h1;rw[show(λi:Nat=>decide (E3 q.ul ((i:Int)+1)≠1))=λi:Nat=>decide (E3 p.ul ((i:Int)+1)≠1)from funext λi=>by rw[QGQ (hp.ous hR)]]at h;rw[h1]at h;cases h
 have h1:Yq q.ul<=q.ul.length:=List.countP_le_length;have:=hp.t.nI;have:=hV.nI;have:=hR.len;omega
theorem qL.t2:PlT q:=by
 have hk:=hp.kds hR hok hn;refine⟨RE.of (hp.e0 hR hok hn),λu hu=>(hk u hu).1,λu hu=>(hk u hu).2.1,λu hu f hf=>?_⟩;obtain⟨i,hi,rfl⟩:=List.getElem_of_mem hu;rw[hR.len]at hi;rw[<-J8]at hf;have hl:(el q.ul i).fl.length=2:=by rw[(hR.us i hi).fl,Ef]
 obtain⟨k,hk,rfl⟩:=List.getElem_of_mem hf;rw[<-J8 hk];rw[hl]at hk;obtain⟨x,_,xz,xe,_⟩:=hp.fk hR hok hn hi hk;rw[xe];dsimp only;rw[Ww];omega
omit hok hn in
theorem qL.shs:vX q=vX p:=by
 unfold vX;rw[hR.sh,hR.len]
 exact List.map_congr_left λs _=>by rw[hp.idx hR]
theorem qL.QI1(hi:i<p.ul.length):(yr p (el p.ul i)).1*(zh p.ul ts (2*i)*zh p.ul ts (2*i+1))=(yr q (el q.ul i)).1/\(yr p (el p.ul i)).2=(yr q (el q.ul i)).2:=by
 obtain⟨x,_,_,xe,x1⟩:=hp.fk hR hok hn hi (k:=0) wv;obtain⟨y,_,_,ye,y1⟩:=hp.fk hR hok hn hi (k:=1) wv;have hU:=hp.v.us _ (Ql hi);have h2:=(hp.t.two (Ql hi)).1;have r0:=(hU.fd _ (Ql (show 0<(el p.ul i).fl.length by omega))).2.2;have r1:=(hU.fd _ (Ql (show 1<(el p.ul i).fl.length by omega))).2.2;unfold yr;rw[xe,ye];dsimp only;refine⟨?_,by rw[hR.len,hp.idx hR]⟩;rw[Ww,Ww,x1,y1];unfold zh;have a0:=hp.QG6 hi (k:=0) wv;rw[Nat.add_zero]at a0;rw[a0,hp.QG6 hi (k:=1) wv];exact QD0 r0 r1
end
def QDl(r:Rat):XH (B3 r)=XH r:=by unfold B3;split<;>simp[RJ]
def p0(b c:Nat):ZL:=⟨2,⟨some ⟨c,0,none⟩,1,1⟩,[⟨Vj,⟨some ⟨b,0,none⟩,2,2⟩,[⟨1,[45,49,47,50]⟩,⟨0,[49]⟩],1,[49],⟨none,0,0⟩,[]⟩],⟨none,0,0⟩,[]⟩
def ts0(b:Nat):List FU:=[(⟨some ⟨b,0,none⟩,1,1⟩,[(20,50)]),(⟨none,0,0⟩,[])]
def QHW(b c:Nat):KL (p0 b c)=0:=wu
def QJ9(b c:Nat):Mq (p0 b c).ul 1=1:=wu
def QB8(b c:Nat):qL (p0 b c):=⟨QHW b c,by show 1<=5;decide,λu hu f hf=>by
 rw[show u=_ from List.mem_singleton.1 hu]at hf;rcases List.mem_cons.1 hf with rfl | hf
 ·decide +kernel
 rw[show f=_ from List.mem_singleton.1 hf];decide +kernel,λu hu=>by rw[show u=_ from List.mem_singleton.1 hu];exact⟨rfl,rfl⟩⟩
def QI9{T1 T2:TypeId}(h1:F b=some (#[.int .i64 1,tx [45,49,47,50],.int .i64 0,tx [49]],T1))(h2:F c=some ((MJ (el (p0 b c).ul 0)).toArray,T2)):KO F (p0 b c) :=
 ⟨Qu.of h2 I,λu hu=>by rw[show u=_ from List.mem_singleton.1 hu];exact⟨Qu.of h1 I,Qu.nil F none 1,rfl,rfl,Nat.le_refl _⟩,Qu.nil F none 1,rfl,rfl⟩
def QIq{T1 T2:TypeId}(h1:F b=some (#[.int .i64 20,.int .i64 50],T1))(h2:F c=some (#[.slice (some ⟨b,0,none⟩) 1 1,.slice none 0 0],T2)):Tu F (some ⟨c,0,none⟩) 2 (ts0 b) :=
 ⟨Qu.of h2 I,rfl,λe he=>by
  rcases List.mem_cons.1 he with rfl | he
  ·exact⟨Qu.of h1 I,rfl⟩
  rw[show e=_ from List.mem_singleton.1 he];exact⟨Qu.nil F none 2,rfl⟩⟩
def jN(b:Nat):∀e∈ts0 b,jR e.2=0:=λe he=>by
 rcases List.mem_cons.1 he with rfl | he
 ·show jR [(20,50)]=0;decide
 rw[show e=_ from List.mem_singleton.1 he];show jR []=0;decide
theorem QI3{d:Nat}{q:ZL}(hR:QCR (p0 b c) (ts0 d) q):J2 [el (rtM q) 0]=[([45,50,47,53],[0,1])]:=by
 have hp:=QB8 b c;obtain⟨x,_,_,xe,x1⟩:=hp.fk hR (jN d) rfl (i:=0) (by show 0<1;decide) (k:=0) wv;obtain⟨y,_,_,ye,y1⟩:=hp.fk hR (jN d) rfl (i:=0) (by show 0<1;decide) (k:=1) wv;have hl:q.ul.length=1:=hR.len;rw[vc O];unfold yr;rw[xe,ye,Ww,Ww,hl];dsimp only;rw[hp.idx hR];show[(Q6 (x*y),uV 2 (Mq (p0 b c).ul 1))]=_;rw[QJ9,x1,y1];show[(Q6 (Ui (Jc [45,49,47,50]) (KV [(20,50)])*Ui (Jc [49]) (KV [])),uV 2 1)]=_;decide +kernel
def QCZ.p{r:Sr}{ps:List Y1}{ms:List Tm}(h:QCZ F r ps ms){k:Nat}(hk:k<r.n):Z4 F (el ps k).1 (el ps k).2 (J2 [el ms k]):=h.pl k hk
theorem QDj{c b:Y1}{p:Pt}(hF:Fits F w)(hA:Z4 F c.1 c.2 p)(hB:Z4 F b.1 b.2 p)(hp:∀x∈p,x.1.length<=1000000/\x.2.length<=1000000)(hl:p.length<=1000000):QY prog 14 [c.1.v,b.1.v] w F (.bool true):=by
 have ht:=hA.QCg hp hl;have h:=Uq (q:=c.1.q) (n:=c.1.n) (cap:=c.1.cap) (q2:=b.1.q) (n2:=b.1.n) (cap2:=b.1.cap) hF hA.1 hA.2.1 hB.1 hB.2.1 ht.1 hB.2.2.2.2 (λt htt=>(ht.2.1 t htt).2) ht.2.2;rw[hA.2.2.1,hB.2.2.1,decide_eq_true rfl]at h;exact h
def QKU{b1:Nat}{f:List UInt8}{k:List Int}{T T1:TypeId}(h1:F b1=some ((k.map Qs).toArray,T1))(h:F b=some ((Y2 (mkT f b1 k)).toArray,T)):Z4 F (mkP b [mkT f b1 k]).1 (mkP b [mkT f b1 k]).2 [(f,k)] :=
 ⟨Qu.of h rfl,λt ht=>by rw[List.mem_singleton.1 ht];exact uQ h1,rfl,Nat.le_refl _,rfl⟩
theorem QFT{s:List UInt8}{n:Nat}(hF:Fits F w):QY prog 18 [tx s,.slice q n c] w F (.agg #[tx s,.slice q n c]):=by
 refine QQ.go (G:=λF=>True) func18 hF trivial ?_;refine QKt<|Qe Gp λb4=>QLi 6 I<|QA (Jr I Uz Gp (wQ I I I))<|QS (vs:=[_,_]) I I I Xq I .here .h2 wU<|QJi<|QT ?_
 exact QM (()) I (.J4 (c:=[_,_]) I Xq .here .nil) (rfl) tB
theorem Le(hF:Fits F w)(hGl:JZ F):QY prog 7 [] w F (.bool true):=by
 refine QQ.go (G:=λF=>JZ F) func7 hF hGl ?_;refine wA 7 I<|QA (Jr I QEC pj (wQ I I I))<|QA (Jr I QEC pj (wQ I I I))<|Qw I (JR F3) UQ pj I I λb12=>QJ I (λ_ _ f k=>QEX (l:=[(20,50),(30,20)]) f k.1 (Qu.of k.2 I) rfl wv) λ_=>?_
 rw[show tx (Q6 (KV [(20,50),(30,20)]))=tx [51,47,53]from by rw[show Q6 (KV [(20,50),(30,20)])=[51,47,53]from by decide +kernel]];refine QLi 9 I<|QA (Jr I QGr yi (wQ I I I))<|QA (Jr I QGr yi (wQ I I I))<|Qw I (JR Zz) YC yi I I λb18=>QA (Jr I QI8 Ni (.cons (vs:=[_]) I I I .h1 (.cons (vs:=[_]) I I I (.skip .h1) (.cons (vs:=[_]) I I I (.skip (.skip .h1)) (.cons (vs:=[_]) I I I (.skip (.skip (.skip .h1))) .nil)))))<|Qw I (JR Xr) XJ Ni I I λb20=>QA (Jr I QGt QAK (.cons (vs:=[_]) I I I .h1 (.cons (vs:=[_]) I I I (.skip .h1) .nil)))<|Qe QAK λb3=>QS (vs:=[_,_,_]) I I I Zf I .here .h3 wV<|QJi<|QG<|Jf (b:=b3) .here<|QB<|QA (JG (n:=1) (vs:=[.int .i64 2,.slice (some ⟨b20,0,none⟩) 1 1,.slice none 0 0]) ((0)*3) (λF h9=>(Qu.of (n:=1) (sz:=3) h9.2 I)) O rfl Zf I λj v hv=>by simpa using hv)<|QA (Jr I QEC pj (wQ I I I))<|Qw I (JR F3) UQ pj I I λb25=>Qw I (JR Ue) LX QJv I I λb26=>QJ I (λ_ _ f h=>zV (p:=p0 b18 b20) (ts:=ts0 b25) (c:=2) f h.1.1.1.1.1.1.1 (QI9 h.1.1.1.1.2 h.1.1.1.2) (qB.of (QI9 h.1.1.1.1.2 h.1.1.1.2) (QHW _ _) (by show 1<=1000000;decide)) (QHW _ _) (QIq h.1.2 h.2) (jN _) rfl rfl wv λu hu=>((QB8 b18 b20).k u hu).1) λc27=>wB 3 I<|Qe QAK λb4=>QS (vs:=[_,_,_]) I I I Zf I .here .h3 wV<|wR I<|QG<|Jf (b:=b4) .here<|QB<|QA (JG (n:=1) (vs:=[Qs c27.sh,.slice c27.un.q c27.un.n c27.un.cap,.slice c27.ot.q c27.ot.n c27.ot.cap]) ((0)*3) (λF h9=>(Qu.of (n:=1) (sz:=3) h9.2 I)) O rfl Zf I λj v hv=>by simpa using hv)<|JM _ (λ_ _ f k=>k.1.2.2) λhR=>?_
 have hq0:=(QB8 b18 b20).e0 hR (jN _) rfl;have hqT:=(QB8 b18 b20).t2 hR (jN _) rfl;refine QJ I (λ_ _ f k=>xQ f k.1.1.1.1.1.1.1.1.1 k.1.2.1 (qB.of k.1.2.1 hq0 (by rw[hR.len];show 1<=1000000;decide)) hqT hq0) (λc32=>JM _ (λw F hF ⟨⟨⟨⟨⟨⟨⟨⟨⟨⟨hGl,hs12⟩,_⟩,hs18⟩,hs20⟩,hz3⟩,hs25⟩,hs26⟩,h27⟩,hz4⟩,h⟩=>And.intro (show c32.rt.n=1 from h.rn.trans hR.len) (And.intro h.nm h.rt.len)) λhpp=>?_);obtain⟨hrn,hnm,hrl⟩:=hpp;refine wB 4 I<|Qe vC λb6=>QS (vs:=[_,_,_]) I I (by show([c32.nm]++_:List Value).toArray=_ ;rfl) UR I .here .h3 ⟨hnm.1,rfl,rfl,trivial⟩<|QLi 5 I<|Jf (b:=b6) .here<|JC QJ3 mixed wu<|QI (QD I)<|QI (QD I)<|QI (Qk I I O)<|QI (QD I)<|QI (Qk I I O)<|QI (QR (v:=.bool true) rfl rfl (rfl))<|QI (QD I)<|JB I I<|QI (QD I)<|JB I I<|QI (QR (v:=.bool true) rfl rfl wu)<|QI (Qh I I I)<|QI (QD I)<|JB I I<|QI (QH I EN GM)<|JB I I<|QI (Qg (n:=1) ((0)*3+1) (λF h9=>(Qu.of (n:=1) (sz:=3) h9.2 I)) O rfl GM I)<|JB I I<|QI (QW I KW)<|JB I I<|QI (QR (v:=.bool true) rfl rfl (by rw[hrn];rfl))<|QI (Qh I I I)<|QI (QD I)<|JB I I<|QI (QH I EN GM)<|JB I I<|QI (Qg (n:=1) ((0)*3+1) (λF h9=>(Qu.of (n:=1) (sz:=3) h9.2 I)) O rfl GM I)<|JB I I ?_
 refine QI (Qo (n:=c32.rt.n) (0) (λF h9=>h9.1.2.rt.row) rfl wN KW YY O)<|JB I I<|QI (Qg (n:=c32.rt.n) ((0)*1) (λF h9=>h9.1.2.rt.row) O rfl YY (ZF (f:=λe:Y1=>e.1.v) (l:=c32.rl) O))<|JB I I ?_
 refine Jp I (JR Qd) QZ Hj I I (λb57=>?_) (λw h=>h.imp .slnil tC);refine JB I I<|QV I (λ_ _ f k=>QFT f) λ_=>JB I I ?_
 refine Jp I (JR Xk) Xq Gp I I (λb59=>?_) (λw h=>h.imp .slnil λF h=>h.1.1);refine JB I I<|QV I (λ_ _ f q=>QDj (c:=el c32.rl 0) (b:=mkP b59 [mkT [45,50,47,53] b57 [0,1]]) f (by have h:=q.1.1.1.1.2.rt.p (k:=0) (by rw[hrn];decide);rwa [QI3 hR]at h) (QKU q.1.1.2 q.2) wv wv) λ_=>QI (Qh I I I)<|QI (QE I)<|Qv<|QC<|QT ?_
 exact QL3 I I (rfl) tB
theorem QCv[Dr][df:Df]{N:Nat}{m:Sl}{S:World->Prop}{ty yT:TypeId}{x y:Operand}{a b:List UInt8}(hx:ev m x=some (.agg #[tx a,tx b]))(hy:ev m y=some (.agg #[tx a,tx b])):Qt prog N m S (.binOp .neq 54 x y yT) ty (.bool false):=by
 have h:=ua (N:=N) (S:=S) (ty:=ty) (yT:=yT) hx hy
 rwa [decide_eq_true rfl,decide_eq_true rfl]at h
def Tq(x:Int):yL .neq (.int .i64 x) (.int .i64 x)=some (.bool false):=by simp[yL]
def FK(n:Nat):yL .neq (.int .i64 (n:Int)) (.int .i64 (n:Int))=some (.bool false):=Tq _
theorem QHk{a b:Rat}(hF:Fits F w)(hG:JZ F)(ha:XH a<=100)(hb:XH b<=100):QY prog 12 [tx (Q6 a),tx (Q6 b)] w F (.tuple #[tx (Q6 (a*b)),.int .i64 0]):=by
 have ca:=ER (Wv ha wv);have cb:=ER (Wv hb wv);have h:=QEM (a:=Q6 a) (b:=Q6 b) hF hG ⟨AM ca,AM cb⟩;have z:=Zg a b;rw[show P2 (·*·) (Q6 a) (Q6 b)=(Q6 (a*b),0)from by
  unfold P2;rw[ca,cb,if_pos (show Qz [(0:Int),0]=0 from rfl),Ww,Ww];unfold UD;rw[if_neg];show ¬Xo (a*b)=true;rw[Wv (k:=1800) O wv];decide]at h
 exact h
theorem QBK{p:ZL}(hp:qL p)(hok:∀e∈ts,jR e.2=0)(hn:ts.length=2*p.ul.length){m:Nat}(hm:m<2*p.ul.length):zh p.ul ts m≠0/\XH (zh p.ul ts m)<=93:=by
 have ho:=OW.of (hok _ (Ql (show m<ts.length by omega)));have h1:=Ou (l:=(el ts m).2) (a:=1) wv (λx hx=>⟨(ho.p x hx).1.1,(ho.p x hx).2.1⟩);change 0<KV _ at h1;have hal:=hp.al;have hfm:=Ql (show m<(Dp p.ul).length by omega);have hf:=hp.fd _ hfm;obtain⟨u,hu,hfu⟩:=List.mem_flatMap.1 hfm;have hz:=hp.s u hu _ hfu;have hs:=QBs hf.2.1;unfold zh;refine⟨λe=>?_,?_⟩
 ·have:=Rat.div_mul_cancel (a:=KV (el ts m).2) hs;rw[e]at this
  grind
 have h2:=vO (x:=KV (el ts m).2) (y:=B3 (Jc (el (Dp p.ul) m).r)) (λe=>hs (Rat.num_eq_zero.1 e));have h3:=NX ho;rw[QDl]at h2;omega
def QEg{j:Nat}(h:k<j):(((fcL us ts j).map Q6).map tx)[k*1]?=some (tx (Q6 (zh us ts k))):=by
 have hl:(fcL us ts j).length=j:=by simp[fcL]
 rw[Nat.mul_one,List.map_map,List.getElem?_map,List.getElem?_eq_getElem O,<-J8,QH6 h];rfl
def QEh{p:ZL}(hp:qL p)(hok:∀e∈ts,jR e.2=0)(hn:ts.length=2*p.ul.length):Qz (((fcL p.ul ts (Dp p.ul).length).map Q6).map Q9)=0:=Dc λx hx=>by
 obtain⟨s,hs,rfl⟩:=List.mem_map.1 hx;obtain⟨r,hr,rfl⟩:=List.mem_map.1 hs;obtain⟨m,hm,rfl⟩:=List.mem_map.1 hr;rw[hp.al]at hm;exact ER (Wv (QBK hp hok hn (List.mem_range.1 hm)).2 wv)
def QEs{N v:Nat}{a:Rat}(hv:v<N)(ha:a≠0)(hz:XH a<=1800):Bq N [(a,uV N v)]:=by
 have one:∀ {t:Tm},t∈[(a,uV N v)]->t=(a,uV N v):=λh=>List.mem_singleton.1 h;exact⟨⟨List.pairwise_singleton _ _,λt ht=>by rw[one ht];exact ha⟩,λt ht=>by rw[one ht];exact S6 _ _,λt ht=>by rw[one ht];exact⟨λx hx=>(QDb x hx).1,by show(uV N v).sum<=12;rw[QDa hv];decide⟩,by show 1<=64;decide,λt ht=>by rw[one ht];exact hz⟩
theorem QGp{p:ZL}(hp:qL p){i:Nat}(hi:i<p.ul.length):(yr p (el p.ul i)).1≠0/\XH (yr p (el p.ul i)).1<=1800:=by
 have h2:=(hp.t.two (Ql hi)).1;have f0:=(hp.v.us _ (Ql hi)).fd _ (Ql (show 0<(el p.ul i).fl.length by omega));have f1:=(hp.v.us _ (Ql hi)).fd _ (Ql (show 1<(el p.ul i).fl.length by omega));have z0:=hp.s _ (Ql hi) _ (Ql (show 0<(el p.ul i).fl.length by omega));have z1:=hp.s _ (Ql hi) _ (Ql (show 1<(el p.ul i).fl.length by omega));have z:=Zg (Jc (el (el p.ul i).fl 0).r) (Jc (el (el p.ul i).fl 1).r);exact⟨λe=>by
  rcases Rat.mul_eq_zero.1 e with h | h
  ·exact f0.2.2 h
  exact f1.2.2 h,by show XH (_*_)<=1800;omega⟩
theorem QJb{p:ZL}(hp:qL p){i:Nat}(hi:i<p.ul.length):Bq (p.ul.length+1) [yr p (el p.ul i)] :=
 QEs (wm<|qp p.ul (el (el p.ul i).fl 0).k) (QGp hp hi).1 (QGp hp hi).2
structure TrK(p q:ZL)(ts:List FU):Prop where
 pn:qL p
 rp:QCR p ts q
 ok:∀e∈ts,jR e.2=0
 ln:ts.length=2*p.ul.length
section
variable{p q:ZL}{ts:List FU}(h:TrK p q ts)
include h
theorem TrK.len:q.ul.length=p.ul.length:=h.rp.len
theorem TrK.e0:KL q=0:=h.pn.e0 h.rp h.ok h.ln
theorem TrK.t2:PlT q:=h.pn.t2 h.rp h.ok h.ln
theorem TrK.sts:(q.ul.map λu=>(u.st,u.st))=p.ul.map λu=>(u.st,u.st):=by
 refine List.ext_getElem (by simp[h.len]) λk h1 h2=>?_;have hk:k<p.ul.length:=by simpa using h2
 have:=(h.rp.us k hk).st;rw[J8 (by rw[h.len];exact hk),J8 hk]at this;simp[this]
theorem TrK.fac(hi:i<p.ul.length):XH (zh p.ul ts (2*i))<=93/\XH (zh p.ul ts (2*i+1))<=93/\zh p.ul ts (2*i)*zh p.ul ts (2*i+1)≠0:=by
 have h1:=QBK h.pn h.ok h.ln (m:=2*i) O;have h2:=QBK h.pn h.ok h.ln (m:=2*i+1) O;exact⟨h1.2,h2.2,λe=>by
  rcases Rat.mul_eq_zero.1 e with g | g
  ·exact h1.1 g
  exact h2.1 g⟩
theorem TrK.scl(hi:i<p.ul.length):K4 (zh p.ul ts (2*i)*zh p.ul ts (2*i+1)) [yr p (el p.ul i)]=[yr q (el q.ul i)]:=by
 obtain⟨e1,e2⟩:=h.pn.QI1 h.rp h.ok h.ln hi;unfold K4;rw[if_neg (h.fac hi).2.2,List.map_cons,List.map_nil,e1,e2]
theorem TrK.bq(hi:i<p.ul.length):Bq (p.ul.length+1) [yr q (el q.ul i)]:=by
 have hl:=h.len;have e:=h.pn.QI1 h.rp h.ok h.ln hi;obtain⟨x,x0,xz,xe,_⟩:=h.pn.fk h.rp h.ok h.ln hi (k:=0) wv;obtain⟨y,y0,yz,ye,_⟩:=h.pn.fk h.rp h.ok h.ln hi (k:=1) wv;have z:=Zg x y;have h1:=QEs (N:=p.ul.length+1) (v:=Mq p.ul (el (el p.ul i).fl 0).k) (a:=x*y) (wm<|qp p.ul (el (el p.ul i).fl 0).k) (λe=>by
  rcases Rat.mul_eq_zero.1 e with g | g
  ·exact x0 g
  exact y0 g) O
 have e3:(yr q (el q.ul i)).1=x*y:=by unfold yr;rw[xe,ye,Ww,Ww]
 rw[show yr q (el q.ul i)=(x*y,uV (p.ul.length+1) (Mq p.ul (el (el p.ul i).fl 0).k))from Prod.ext e3 e.2.symm];exact h1
end
theorem QCd{p:ZL}{n:Nat}(hF:Fits F w)(hGl:JZ F)(hP:KO F p)(hL:k6 p)(hT:Tu F q n ts)(hn:n<=9223372036854775807)(hb:∀e∈ts,e.1.n<=9223372036854775807):QY prog 3 [p.v,.slice q n c] w F (.bool true):=by
 have LU:=hP.MK;have htl:=hT.len;have hml:(p.ul.map λu=>(u.st,u.st)).length=p.ul.length:=List.length_map _;refine QQ.go (G:=λF=>JZ F/\KO F p/\Tu F q n ts) func3 hF ⟨hGl,hP,hT⟩ ?_;refine QKt<|Q8 I (vs:=[_,_,_]) I λb2=>QLi 5 I<|Jf (b:=b2) .here<|QB<|QA (JG (n:=1) (vs:=[Qs p.sh,.slice p.un.q p.un.n p.un.cap,.slice p.ot.q p.ot.n p.ot.cap]) ((0)*3) (λF h9=>(Qu.of (n:=1) (sz:=3) h9.2 I)) O rfl Zf I λj v hv=>by simpa using hv)<|QJ I (λ_ _ f k=>QDk f k.1.2.1 hL) λc22=>JM _ (λ_ _ f k=>k.2) λhm22=>QA (YD I)<|QJj I ?_
 refine Qn (t:=24) rfl (λhb24=>?_) λhb24=>?_
 ·refine QLi 14 I<|ZB I<|QKt<|QJ I (λ_ _ f k=>Le f k.1.1.1) λ_=>wR I<|QT ?_
  exact QL3 I I (rfl) tB
 have hm:=hm22 (by simpa using hb24);have hp:qL p:=.of hm.1 hm.2;refine wB 3 I<|QJ I (λ_ _ f k=>QCh f k.1.1.2.2 hn hb) λc26=>JM _ (λ_ _ f k=>k.2) λhm26=>QP I I<|QA (YD I)<|wB 2 I ?_
 refine Qn (t:=29) rfl (λhb29=>?_) λhb29=>?_
 ·refine QLi 9 I<|ZB I<|QKt<|QJ I (λ_ _ f k=>Le f k.1.1.1.1) λ_=>wR I<|QT ?_
  exact QL3 I I (rfl) tB
 have hok:=(hm26 (by simpa using hb29)).2;have hn12:=(hm26 (by simpa using hb29)).1;refine wB 3 I<|QA (QW I Ue)<|QP I I<|QA (JG (n:=1) (vs:=[Qs p.sh,.slice p.un.q p.un.n p.un.cap,.slice p.ot.q p.ot.n p.ot.cap]) ((0)*3) (λF h9=>(Qu.of (n:=1) (sz:=3) h9.1.1.2 I)) O rfl Zf I λj v hv=>by simpa using hv)<|QP I I<|QJ I (λ_ _ f k=>QCq f k.1.1.1.2.1 (wm hp.n) λu hu=>wm<|hp.two u hu) λc33=>JM _ (λ_ _ f k=>k.2) λhn33=>QP I I<|QA (QW (q:=c33.q) (n:=c33.n) (c:=c33.cap) rfl YI)<|QLi 5 I ?_
 refine QL I (λhc2=>?_) λhc2=>?_
 ·refine QKt<|QJ I (λ_ _ f k=>Le f k.1.1.1.1.1) λ_=>wR I<|QT ?_
  exact QL3 I I (rfl) tB
 have hln:(Dp p.ul).length=ts.length:=by have:=hc2;simp at this;omega
 have hal:=hp.al;have hn2:ts.length=2*p.ul.length:=O;have hpn5:=hp.n;have hLs:=qB.of hP hp.z O;have hsh:=xO hp.z;refine QLj 4 I<|QA (JG (n:=1) (vs:=[Qs p.sh,.slice p.un.q p.un.n p.un.cap,.slice p.ot.q p.ot.n p.ot.cap]) ((0)*3) (λF h9=>(Qu.of (n:=1) (sz:=3) h9.1.1.1.2 I)) O rfl Zf I λj v hv=>by simpa using hv)<|QJj I<|QJ I (λw F hF ⟨⟨⟨⟨⟨hGl,hP,hT⟩,hz2⟩,_⟩,_⟩,_⟩=>zV hF hGl hP hLs hp.z hT hok hln hn2 O λu hu=>(hp.k u hu).1) λc41=>JM _ (λ_ _ f k=>k.2.2) λhR=>?_
 have hK:TrK p c41 ts:=⟨hp,hR,hok,hn2⟩;have hql:=hK.len;refine wB 3 I<|Qe QAK λb5=>QS (vs:=[_,_,_]) I I I Zf I .here .h3 wV<|wR I<|QG<|Jf (b:=b5) .here<|QB<|QA (JG (n:=1) (vs:=[Qs p.sh,.slice p.un.q p.un.n p.un.cap,.slice p.ot.q p.ot.n p.ot.cap]) ((0)*3) (λF h9=>(Qu.of (n:=1) (sz:=3) h9.1.1.1.1.1.2 I)) O rfl Zf I λj v hv=>by simpa using hv)<|QJj I<|QJ I (λw F hF ⟨⟨⟨⟨⟨⟨⟨hGl,hP,hT⟩,hz2⟩,_⟩,_⟩,_⟩,h41⟩,hz5⟩=>QBD hF hGl hP hLs hp.z hT hok hln O (λu hu=>⟨(hP.us _ hu).MQ,by have:=(hP.us _ hu).MQ;have:=hp.two u hu;omega⟩) hp.fd) λc47=>JM _ (λ_ _ f k=>k.2.2.1) λhn47=>QJj rfl<|QA (QU rfl rfl)<|QA (QU rfl rfl)<|QJk rfl<|wR rfl<|QKt<|QA (JG (n:=1) (vs:=[Qs p.sh,.slice p.un.q p.un.n p.un.cap,.slice p.ot.q p.ot.n p.ot.cap]) ((0)*3) (λF h9=>(Qu.of (n:=1) (sz:=3) h9.1.1.1.1.1.1.2 rfl)) O rfl Zf rfl λj v hv=>by simpa using hv)<|QJ rfl (λ_ _ f k=>xQ f k.1.1.1.1.1.1.1.1 k.1.1.1.1.1.1.1.2.1 hLs hp.t hp.z) λc52=>JM _ (λw F hF ⟨⟨⟨⟨⟨⟨⟨⟨⟨hGl,hP,hT⟩,hz2⟩,_⟩,_⟩,_⟩,h41⟩,hz5⟩,h47⟩,h⟩=>And.intro h.rn (And.intro h.sn (And.intro h.nm (And.intro h.rt.len (And.intro h.sh.len h.spn))))) λhpp=>?_
 obtain⟨hrn,hsn,hnm,hrl,hsl,hpn⟩:=hpp;refine wB 4 I<|Qe vC λb9=>QS (vs:=[_,_,_]) I I (by show([c52.nm]++_:List Value).toArray=_ ;rfl) UR I .here .h3 ⟨hnm.1,rfl,rfl,trivial⟩<|QLi 5 I<|Jf (b:=b9) .here<|QB<|QA (JG (n:=1) (vs:=[Qs c41.sh,.slice c41.un.q c41.un.n c41.un.cap,.slice c41.ot.q c41.ot.n c41.ot.cap]) ((0)*3) (λF h9=>(Qu.of (n:=1) (sz:=3) h9.1.1.1.2 I)) O rfl Zf I λj v hv=>by simpa using hv)<|QJ I (λ_ _ f k=>xQ f k.1.1.1.1.1.1.1.1.1.1 k.1.1.1.1.2.1 (qB.of k.1.1.1.1.2.1 hK.e0 (by rw[hql];have:=hp.n;omega)) hK.t2 hK.e0) λc58=>JM _ (λ_ _ _ k=>And.intro k.2.rn (And.intro (k.2.sn.trans (by rw[hR.sh])) (And.intro k.2.nm (And.intro k.2.rt.len (And.intro k.2.sh.len k.2.spn))))) λhpp=>?_
 obtain⟨hrn2,hsn2,hnm2,hrl2,hsl2,hpn2⟩:=hpp;rw[hql]at hrn2 hpn2;refine wB 4 I<|Qe vC λb12=>QS (vs:=[_,_,_]) I I (by show([c58.nm]++_:List Value).toArray=_ ;rfl) UR I .here .h3 ⟨hnm2.1,rfl,rfl,trivial⟩<|QLi 6 I<|Jf (b:=b12) .here<|wA 3 I<|QA (Qk I I O)<|QJj I<|QA (Qk I I O)<|QJj I<|QA (Qk I I O)<|QA (QR (v:=.bool false) rfl rfl (rfl))<|wB 4 I<|QA (QW I YI)<|wB 3 I<|QA (QW I Ue)<|QP I I<|QA (QR (v:=.bool false) rfl rfl (by rw[hn47,hln,htl];exact FK _))<|QA (Qi rfl rfl rfl)<|QJj rfl<|QP rfl rfl<|QJj rfl<|QP rfl rfl<|QJ rfl (λw F hF k=>TJ hF k.1.1.1.1.2.1 ⟨by simp[fcL,hn47],λs hs=>by obtain⟨r,hr,rfl⟩:=List.mem_map.1 hs;have:=AM (HK (QEh hp hok hn2) _ (List.mem_map_of_mem hs));omega⟩ O) λ_=>?_
 rw[QEh hp hok hn2];refine QP I I<|QA (QR (v:=.bool false) rfl rfl (rfl))<|wB 3 I<|QA (QH I EN GM)<|QP I I<|QA (Qg (n:=1) ((0)*3+1) (λF h9=>(Qu.of (n:=1) (sz:=3) h9.1.1.1.2 I)) O rfl GM I)<|QP I I<|QA (QW I KW)<|QP I I<|QA (QH I XS Jj)<|QP I I<|QA (Qg (n:=1) ((0)*3+1) (λF h9=>(Qu.of (n:=1) (sz:=3) h9.1.1.1.1.1.1.1.1.1.1.1.2 I)) O rfl Jj I)<|QP I I<|QA (QW I Xr)<|QP I I<|QA (QR (v:=.bool false) rfl rfl (by rw[hrn,LU];exact FK _))<|wB 3 I<|QA (QH I EN GM)<|QP I I<|QA (Qg (n:=1) ((0)*3+1) (λF h9=>(Qu.of (n:=1) (sz:=3) h9.1.2 I)) O rfl GM I)<|QP I I<|QA (QW I KW)<|QP I I<|QA (QH I XS Jj)<|QP I I<|QA (Qg (n:=1) ((0)*3+1) (λF h9=>(Qu.of (n:=1) (sz:=3) h9.1.1.1.1.1.1.1.1.1.1.1.2 I)) O rfl Jj I)<|QP I I<|QA (QW I Xr)<|QP I I<|QA (QR (v:=.bool false) rfl rfl (by rw[hrn2,LU];exact FK _))<|wB 5 I<|QA (QW I KW)<|QP I I ?_
 refine QA (QH I WT QZ)<|QP I I<|QA (Qg (n:=1) ((0)*3+0) (λF h9=>(Qu.of (n:=1) (sz:=3) h9.1.1.1.1.1.1.1.1.1.1.1.2 I)) O rfl QZ I)<|QP I I<|QA (QR (v:=.bool false) rfl rfl (by rw[hsn,Int.toNat_of_nonneg O];exact Tq _))<|wB 5 I<|QA (QW I KW)<|QP I I<|QA (QH I WT QZ)<|QP I I<|QA (Qg (n:=1) ((0)*3+0) (λF h9=>(Qu.of (n:=1) (sz:=3) h9.1.1.1.1.1.1.1.1.1.1.1.2 I)) O rfl QZ I)<|QP I I<|QA (QR (v:=.bool false) rfl rfl (by rw[hsn2,Int.toNat_of_nonneg O];exact Tq _))<|QLi 3 I<|ZP I<|QLj 5 I<|QA (QH I EN GM)<|QA (Qg (n:=1) ((0)*3+1) (λF h9=>(Qu.of (n:=1) (sz:=3) h9.1.1.1.2 I)) O rfl GM I)<|QA (QW I KW)<|QLi 4 I<|Jo (ι:=IxJ p.ul.length) [(2,_),(7,_),(9,_),(10,_),(12,_),(13,_),(116,_)] (λi=>[(117,.int .i64 ((i.i:Nat):Int))]) (λi=>p.ul.length-i.i) (⟨0,Nat.zero_le _⟩) wZ wT λi=>?_
 have hi:=i.le;refine wA 6 I ?_;refine QL I (λhc2=>?_) λhc2=>?_
 ·have hlt:i.i<p.ul.length:=wm<|QK8 hc2
  have hfa:=hK.fac hlt;have hyz:=Zg (zh p.ul ts (2*i.i)) (zh p.ul ts (2*i.i+1));have hyc:Q9 (Q6 (zh p.ul ts (2*i.i)*zh p.ul ts (2*i.i+1)))=0:=ER (Wv (k:=186) O wv);refine QLj 11 I<|JC QJ3 mixed wu<|QI (QD I)<|QI (QD I)<|QI (VN I I O)<|QI (Qo (n:=c47.n) ((2*i.i)) (λF h9=>h9.1.1.1.1.1.2.1) rfl wN YI JP O)<|QI (Qg (n:=c47.n) (((2*i.i))*1) (λF h9=>h9.1.1.1.1.1.2.1) O rfl JP (QEg O))<|QI (QD I)<|QI (QD I)<|QI (VN I I O)<|QI (Qk I I O)<|QI (Qo (n:=c47.n) ((2*i.i+1)) (λF h9=>h9.1.1.1.1.1.2.1) rfl wN YI JP O)<|QI (Qg (n:=c47.n) (((2*i.i+1))*1) (λF h9=>h9.1.1.1.1.1.2.1) O rfl JP (QEg O))<|QV I (λ_ _ f k=>QHk f k.1.1.1.1.1.1.1.1.1.1.1.1.1 (Nat.le_trans hfa.1 wv) (Nat.le_trans hfa.2.1 wv)) λ_=>QI (QD I)<|QI (QU I I)<|QI (QU I I)<|QI (QE I)<|QI (QE I)<|Qv<|QC<|QG<|JC QJ3 mixed wu<|QI (QD I)<|QI (QH I EN GM)<|QI (Qg (n:=1) ((0)*3+1) (λF h9=>(Qu.of (n:=1) (sz:=3) h9.1.1.1.1.2 I)) O rfl GM I)<|QI (QD I)<|QI (Qo (n:=c52.rt.n) i.i (λF h9=>h9.1.1.1.1.1.2.rt.row) rfl rfl KW YY O)<|QI (Qg (n:=c52.rt.n) ((i.i)*1) (λF h9=>h9.1.1.1.1.1.2.rt.row) O rfl YY (ZF (f:=λe:Y1=>e.1.v) (l:=c52.rl) O))<|QI (QH I XS Jj)<|QI (Qg (n:=1) ((0)*3+1) (λF h9=>(Qu.of (n:=1) (sz:=3) h9.1.1.1.1.1.1.1.1.1.1.1.1.2 I)) O rfl Jj I) ?_
  refine QI (QW I Xr)<|QV I (λ_ _ f q=>QDr (k:=p.ul.length+1) (v:=(p.un.n:Int)) (p:=[yr p (el p.ul i.i)]) (a:=el c52.rl i.i) f q.1.1.1.1.1.1.1.1.1.1.1.1.1.1 (by have h:=q.1.1.1.1.1.2.rt.p (k:=i.i) O;rwa [vc hlt]at h) O O hyc (Ww _) (AM hyc) (QJb hp hlt) (by rw[hK.scl hlt];exact hK.bq hlt)) λc145=>QI (QD I)<|QI (QU I I)<|QI (QU I I)<|QI (QE I)<|QI (QE I)<|Qv<|QC<|QG<|JC QJ3 mixed wu<|QI (QD I)<|QI (QD I)<|QI (Qk I I O)<|QI (QR (v:=.bool false) rfl rfl (rfl))<|QI (QD I)<|JB I I<|QI (QH I EN GM)<|JB I I<|QI (Qg (n:=1) ((0)*3+1) (λF h9=>(Qu.of (n:=1) (sz:=3) h9.1.1.1.2 I)) O rfl GM I)<|JB I I<|QI (QD I)<|JB I I<|QI (Qo (n:=c58.rt.n) i.i (λF h9=>h9.1.1.1.1.2.rt.row) rfl rfl KW YY O)<|JB I I<|QI (Qg (n:=c58.rt.n) ((i.i)*1) (λF h9=>h9.1.1.1.1.2.rt.row) O rfl YY (ZF (f:=λe:Y1=>e.1.v) (l:=c58.rl) O))<|JB I I<|QI (QD I)<|JB I I<|QV I (λw F hF ⟨⟨⟨⟨⟨⟨⟨⟨⟨⟨⟨⟨⟨⟨⟨hGl,hP,hT⟩,hz2⟩,_⟩,_⟩,_⟩,h41⟩,hz5⟩,h47⟩,h52⟩,hz9⟩,h58⟩,hz12⟩,_⟩,_⟩,h145⟩=>QBu (a:=el c58.rl i.i) (b:=c145) (k:=p.ul.length+1) (p:=[yr c41 (el c41.ul i.i)]) hF (by have h:=h58.rt.p (k:=i.i) O;rwa [vc O]at h) (by rw[hK.scl hlt]at h145;exact h145) O (hK.bq hlt) rfl) λ_=>JB I I<|QI (YD (b:=true) rfl)<|QI (Qi I I I)<|QI (QD I)<|JB I I<|QI (QH I I6 Rz)<|JB I I<|QI (Qg (n:=1) ((0)*3+2) (λF h9=>(Qu.of (n:=1) (sz:=3) h9.1.1.1.1.1.2 I)) O rfl Rz I)<|JB I I<|QI (QD I)<|JB I I ?_
  refine QI (Qo (n:=c52.sp.n) i.i (λF h9=>h9.1.1.1.1.1.1.2.sp) rfl rfl je Ry O)<|JB I I<|QI (JG (n:=c52.sp.n) (vs:=[tx (el (p.ul.map λu=>(u.st,u.st)) i.i).1,tx (el (p.ul.map λu=>(u.st,u.st)) i.i).2]) ((i.i)*2) (λF h9=>h9.1.1.1.1.1.1.2.sp) O rfl Ry I λj v hv=>Q4 (f:=spC) (l:=(p.ul.map λu=>(u.st,u.st))) vT O hv)<|JB I I<|QI (QH I I6 Rz)<|JB I I<|QI (Qg (n:=1) ((0)*3+2) (λF h9=>(Qu.of (n:=1) (sz:=3) h9.1.1.1.2 I)) O rfl Rz I)<|JB I I<|QI (QD I)<|JB I I<|QI (Qo (n:=c58.sp.n) i.i (λF h9=>(by have h:=h9.1.1.1.1.2.sp;rwa [hK.sts]at h)) I I je Ry O)<|JB I I<|QI (JG (n:=c58.sp.n) (vs:=[tx (el (p.ul.map λu=>(u.st,u.st)) i.i).1,tx (el (p.ul.map λu=>(u.st,u.st)) i.i).2]) ((i.i)*2) (λF h9=>(by have h:=h9.1.1.1.1.2.sp;rwa [hK.sts]at h)) O rfl Ry I λj v hv=>Q4 (f:=spC) (l:=(p.ul.map λu=>(u.st,u.st))) vT O hv)<|JB I I<|QI (QCv I I)<|QI (Qi I I I)<|Qv<|QC<|ZP I<|QK<|Qa<|QC<|QB<|QA (Qk I I O)<|wB 2 I ?_
  exact Qb (⟨i.i+1,hlt⟩) (by show p.ul.length-(i.i+1)<p.ul.length-i.i;omega) we QJ3 λF h=>h.1.1.1
 refine Q7 ?_;refine wA 4 I<|QA (QW I KW)<|QLi 4 I<|Jo (ι:=IxJ p.sh.toNat) [(10,_),(13,_),(177,_)] (λi2=>[(178,.int .i64 ((i2.i:Nat):Int))]) (λi2=>p.sh.toNat-i2.i) (⟨0,Nat.zero_le _⟩) wV wT λi2=>?_
 have hi2:=i2.le;refine wA 6 I ?_;refine QL I (λhc2=>?_) λhc2=>?_
 ·have hlt2:i2.i<p.sh.toNat:=wm<|QK8 hc2
  refine QLj 11 I<|JC QJ3 mixed wu<|QI (QD I)<|QI (QD I)<|QI (Qo (n:=c52.sh.n) (i2.i) (λF h9=>h9.1.1.1.1.2.sh.row) rfl rfl KW YY O)<|QI (Qg (n:=c52.sh.n) ((i2.i)*1) (λF h9=>h9.1.1.1.1.2.sh.row) O rfl YY (ZF (f:=λe:Y1=>e.1.v) (l:=c52.ps) O))<|QI (QD I)<|QI (QD I)<|QI (Qo (n:=c58.sh.n) (i2.i) (λF h9=>h9.1.1.2.sh.row) rfl rfl KW YY O)<|QI (Qg (n:=c58.sh.n) ((i2.i)*1) (λF h9=>h9.1.1.2.sh.row) O rfl YY (ZF (f:=λe:Y1=>e.1.v) (l:=c58.ps) O))<|QV I (λ_ _ f y=>QBu (a:=el c52.ps i2.i) (b:=el c58.ps i2.i) (k:=p.ul.length+1) (p:=[el (vX p) i2.i]) (q:=[el (vX p) i2.i]) f (y.1.1.1.1.2.sh.p (k:=i2.i) O) (by have h:=y.1.1.2.sh.p (k:=i2.i) O;rwa [hp.shs hR]at h) O (by rw[QDq O];exact QEs (wm (qp p.ul (i2.i:Int))) wy wy) rfl) λ_=>QI (YD (b:=true) rfl)<|Qv<|QC<|ZP I<|QK<|Qa<|QC<|QB<|QA (Qk I I O)<|wB 2 I ?_
  exact Qb (⟨i2.i+1,hlt2⟩) (by show p.sh.toNat-(i2.i+1)<p.sh.toNat-i2.i;omega) wW QJ3 tD
 refine Q7 ?_;refine QKt<|QJ I (λ_ _ f k=>Le f k.1.1.1.1.1.1.1.1.1.1.1.1.1) λ_=>wR I<|QT ?_
 exact QL3 I I (rfl) tB
section
open Go.RowKit Go.ChangeShapes Go.WideShapes Ig
def dX{α:Type}(f:α->Value):∀(l:List α),l.flatMap (λx=>[f x])=l.map f
 |[]=>rfl
 |x::l=>by rw[List.flatMap_cons,dX f l];rfl
section
variable{H:Type}{enc:TypeId×Value->H}{w:World}
theorem trod_struct2{t:TypeId}{f0 f1:Field}{fuel:Nat}{x:DataW H×List MemPlace}(ht:prog.underlying t=some (.struct #[f0,f1]))(h:DataW.trod enc prog w 0 (λ_=>true) true fuel t cs=some x):
  ∃z0 z1 n,cs.length=prog.cellsOf t/\DataW.trod enc prog w 0 (λ_=>true) true n f0.type ((cs.drop f0.offset).take (prog.cellsOf f0.type))=some z0/\DataW.trod enc prog w 0 (λ_=>true) true n f1.type ((cs.drop f1.offset).take (prog.cellsOf f1.type))=some z1:=by
 obtain⟨xs,n,_,rfl,hl,hlen,hf⟩:=DataW.trod_struct ht h
 match xs,hlen with
 |[z0,z1],_=>exact⟨z0,z1,n,hl,by simpa using hf 0 f0 rfl,by simpa using hf 1 f1 rfl⟩
theorem vM{t:TypeId}{f0 f1 f2 f3 f4:Field}{fuel:Nat}{x:DataW H×List MemPlace}(ht:prog.underlying t=some (.struct #[f0,f1,f2,f3,f4]))(h:DataW.trod enc prog w 0 (λ_=>true) true fuel t cs=some x):
  ∃z0 z1 z2 z3 z4 n,cs.length=prog.cellsOf t/\DataW.trod enc prog w 0 (λ_=>true) true n f0.type ((cs.drop f0.offset).take (prog.cellsOf f0.type))=some z0/\DataW.trod enc prog w 0 (λ_=>true) true n f1.type ((cs.drop f1.offset).take (prog.cellsOf f1.type))=some z1/\DataW.trod enc prog w 0 (λ_=>true) true n f2.type ((cs.drop f2.offset).take (prog.cellsOf f2.type))=some z2/\DataW.trod enc prog w 0 (λ_=>true) true n f3.type ((cs.drop f3.offset).take (prog.cellsOf f3.type))=some z3/\DataW.trod enc prog w 0 (λ_=>true) true n f4.type ((cs.drop f4.offset).take (prog.cellsOf f4.type))=some z4:=by
 obtain⟨xs,n,_,rfl,hl,hlen,hf⟩:=DataW.trod_struct ht h
 match xs,hlen with
 |[z0,z1,z2,z3,z4],_=>exact⟨z0,z1,z2,z3,z4,n,hl,by simpa using hf 0 f0 rfl,by simpa using hf 1 f1 rfl,by simpa using hf 2 f2 rfl,by simpa using hf 3 f3 rfl,by simpa using hf 4 f4 rfl⟩
theorem dH:prog.cellsOf 3=1:=wu
theorem QA6:prog.cellsOf 45=1:=wu
theorem QH0:prog.cellsOf 9=1:=wu
set_option maxRecDepth 100000 in
theorem QDD(n:Nat)(cs:List Value)(x:DataW H×List MemPlace)(h:DataW.trod enc prog w 0 (λ_=>true) true n 3 cs=some x):∃y:Int,cs=[.int .i64 y]/\True:=by
 obtain⟨z,rfl,_,_⟩:=DataW.trod_int underlying3 h;exact⟨z,rfl,trivial⟩
set_option maxRecDepth 100000 in
theorem QDC{m:Nat}{x:DataW H×List MemPlace}(h:DataW.trod enc prog w 0 (λ_=>true) true m 23 cs=some x):∃(r:Sr) (l:List Int),cs=[.slice r.q r.n r.cap]/\Qu (V9 w) r.q r.n 1 (l.map Qs)/\l.length=r.n/\r.n<=9223372036854775807:=by
 obtain⟨q,n,cap,l,h1,h2,h3,h4,_,_⟩:=Na (f:=λy:Int=>[.int .i64 y]) (Q:=λ_=>True) underlying23 dH wv (λ_=>rfl) QDD h;rw[dX]at h2;exact⟨⟨q,n,cap⟩,l,h1,h2,h3,h4⟩
set_option maxRecDepth 100000 in
theorem QCt{m:Nat}{x:DataW H×List MemPlace}(h:DataW.trod enc prog w 0 (λ_=>true) true m 29 cs=some x):∃(r:Sr) (l:List (List UInt8)),cs=[.slice r.q r.n r.cap]/\Qu (V9 w) r.q r.n 1 (l.map tx)/\l.length=r.n/\r.n<=9223372036854775807/\∀a∈l,a.length<=9223372036854775807:=by
 obtain⟨q,n,cap,l,h1,h2,h3,h4,h5,_⟩:=Na (f:=λy:List UInt8=>[tx y]) (Q:=λy=>y.length<=9223372036854775807) underlying29 QA6 wv (λ_=>rfl) (λn cs x h=>by
  match cs,(show cs.length=1 from by obtain⟨s,rfl,_,_⟩:=DataW.trod_string underlying45 h;rfl)with
  |[v],_ =>
   obtain⟨l,rfl,g⟩:=vR QBp (v:=v) h;exact⟨l,rfl,g⟩) h
 rw[dX]at h2;exact⟨⟨q,n,cap⟩,l,h1,h2,h3,h4,h5⟩
set_option maxRecDepth 100000 in
theorem cQ(m:Nat)(cs:List Value)(x:DataW H×List MemPlace)(h:DataW.trod enc prog w 0 (λ_=>true) true m 61 cs=some x):∃y:F2,cs=BV y/\y.r.length<=9223372036854775807:=by
 obtain⟨z0,z1,n,hl,h0,h1⟩:=trod_struct2 underlying61 h;rw[show prog.cellsOf 61=2 by kernel_rfl]at hl
 match cs,hl with
 |[a,b],_ =>
  dsimp only at h0 h1;rw[dH]at h0;rw[QA6]at h1;obtain⟨k,rfl⟩:=Ae (v:=a) h0;obtain⟨r,rfl,g⟩:=vR QBp (v:=b) h1;exact⟨⟨k,r⟩,rfl,g⟩
set_option maxRecDepth 100000 in
theorem p6(m:Nat)(cs:List Value)(x:DataW H×List MemPlace)(h:DataW.trod enc prog w 0 (λ_=>true) true m 59 cs=some x):∃y:Xe,cs=MJ y/\UB (V9 w) y/\QGW y:=by
 obtain⟨z0,z1,z2,z3,z4,n,hl,h0,h1,h2,h3,h4⟩:=vM underlying59 h;rw[show prog.cellsOf 59=5 by kernel_rfl]at hl
 match cs,hl with
 |[a,b,c,d,e],_ =>
  dsimp only at h0 h1 h2 h3 h4;rw[QH0]at h0;rw[show prog.cellsOf 57=1 by kernel_rfl]at h1;rw[dH]at h2;rw[QA6]at h3;rw[show prog.cellsOf 29=1 by kernel_rfl]at h4;obtain⟨kd,rfl⟩:=QDp underlying9 (v:=a) h0;obtain⟨q,fn,cap,fl,e1,f2,f3,f4,f5,f6⟩:=Na (cs:=[b]) (f:=BV) (Q:=λy=>y.r.length<=9223372036854775807) underlying57 (show prog.cellsOf 61=2 by kernel_rfl) wv Zw cQ h1;obtain⟨o,rfl⟩:=Ae (v:=c) h2;obtain⟨st,rfl,gst⟩:=vR QBp (v:=d) h3;obtain⟨r4,cl,e4,g2,g3,g4,g5⟩:=QCt (cs:=[e]) h4;obtain rfl:=(List.cons.inj e1).1;obtain rfl:=(List.cons.inj e4).1;exact⟨⟨kd,⟨q,fn,cap⟩,fl,o,st,r4,cl⟩,rfl,⟨f2,g2,f3,g3,f6⟩,⟨f4,g4,gst,f5,g5⟩⟩
set_option maxRecDepth 100000 in
theorem QAr{v:Value}{d:DataW H}{p:List MemPlace}(hv:Value.okWide prog w .any b 25 v)(h:DataW.Trod enc prog w 0 (λ_=>true) true 25 v d p):∃y:ZL,v=y.v/\KO (V9 w) y/\k6 y:=by
 obtain⟨v0,v1,v2,z0,z1,z2,n,rfl,_,_,h0,h1,h2⟩:=Joins.open_agg3 underlying25 wu wu hv h;obtain⟨k0,rfl⟩:=Ae (v:=v0) h0;obtain⟨q,un,cap,ul,e1,f2,f3,f4,f5,f6⟩:=Na (cs:=[v1]) (f:=MJ) (Q:=λy=>UB (V9 w) y/\QGW y) underlying22 (show prog.cellsOf 59=5 by kernel_rfl) wv ZO p6 h1;obtain⟨r2,ol,e2,g2,g3,g4⟩:=QDC (cs:=[v2]) h2;obtain rfl:=(List.cons.inj e1).1;obtain rfl:=(List.cons.inj e2).1;exact⟨⟨k0,⟨q,un,cap⟩,ul,r2,ol⟩,rfl,⟨f2,λu hu=>(f5 u hu).1,g2,f3,g3⟩,⟨f4,g4,λu hu=>(f5 u hu).2⟩⟩
set_option maxRecDepth 100000 in
theorem QAo(m:Nat)(cs:List Value)(x:DataW H×List MemPlace)(h:DataW.trod enc prog w 0 (λ_=>true) true m 66 cs=some x):∃y:Int×Int,cs=uf y/\True:=by
 obtain⟨z0,z1,n,hl,h0,h1⟩:=trod_struct2 underlying66 h;rw[show prog.cellsOf 66=2 by kernel_rfl]at hl
 match cs,hl with
 |[a,b],_ =>
  dsimp only at h0 h1;rw[dH]at h0 h1;obtain⟨k,rfl⟩:=Ae (v:=a) h0;obtain⟨r,rfl⟩:=Ae (v:=b) h1;exact⟨⟨k,r⟩,rfl,trivial⟩
set_option maxRecDepth 100000 in
theorem p9(m:Nat)(cs:List Value)(x:DataW H×List MemPlace)(h:DataW.trod enc prog w 0 (λ_=>true) true m 63 cs=some x):∃y:FU,cs=[y.1.v]/\(Qu (V9 w) y.1.q y.1.n 2 (y.2.flatMap uf)/\y.2.length=y.1.n)/\y.1.n<=9223372036854775807:=by
 obtain⟨q,n,cap,l,h1,h2,h3,h4,_,_⟩:=Na (f:=uf) (Q:=λ_=>True) underlying63 (show prog.cellsOf 66=2 by kernel_rfl) wv ql QAo h;exact⟨(⟨q,n,cap⟩,l),h1,⟨h2,h3⟩,h4⟩
set_option maxRecDepth 100000 in
theorem uw{v:Value}{d:DataW H}{p:List MemPlace}(hv:Value.okWide prog w .any b 26 v)(h:DataW.Trod enc prog w 0 (λ_=>true) true 26 v d p):∃(q:Option Addr) (n c:Nat) (ts:List FU),v = .slice q n c/\Tu (V9 w) q n ts/\n<=9223372036854775807/\∀e∈ts,e.1.n<=9223372036854775807:=by
 obtain⟨a,len,cp,rfl⟩:=okWide_slice underlying26 hv;obtain⟨fuel,hf⟩:=h;obtain⟨q,n,cap,l,h1,h2,h3,h4,h5,_⟩:=Na (cs:=[.slice a len cp]) (f:=λe:FU=>[e.1.v]) (Q:=λy=>(Qu (V9 w) y.1.q y.1.n 2 (y.2.flatMap uf)/\y.2.length=y.1.n)/\y.1.n<=9223372036854775807) underlying26 (show prog.cellsOf 63=1 by kernel_rfl) wv (λ_=>rfl) p9 hf;rw[dX]at h2;exact⟨q,n,cap,l,(List.cons.inj h1).1,⟨h2,h3,λe he=>(h5 e he).1⟩,h4,λe he=>(h5 e he).2⟩
end
end
end Go.Proofs.YteldggljlnakmaaGreatDoor
