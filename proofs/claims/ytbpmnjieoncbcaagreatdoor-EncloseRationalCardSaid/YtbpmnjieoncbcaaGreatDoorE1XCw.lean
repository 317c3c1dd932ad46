/- Steps of the proof of the theorem in the last file. -/
import Derived.Test.YtbpmnjieoncbcaaGreatDoorE0XCw
set_option linter.all false
set_option maxHeartbeats 4000000
open Go.Proofs.Tryz
open Rat renaming le_refl → aa,divInt → ag,pow_succ → aj,le_of_lt → ak,pow_zero → ao,div_def → ar,inv_mul_cancel → aA,mul_nonneg → aC,mul_le_mul_of_nonneg_right → aF,mul_assoc → aG,one_mul → aJ,zero_mul → aL,mul_one → aM,zero_add → aQ,le_trans → aR,add_zero → aS,mul_le_mul_of_nonneg_left → aX,mul_lt_mul_of_pos_right → aZ,intCast_lt_intCast → bw,mul_inv_cancel → bC,mul_zero → bP,mul_comm → bQ,le_total → bR
open List renaming foldl_append → ab,range → af,nil_append → ah,cons_append → ai,range_succ → aq,getElem_of_mem → au,length_map → ay,length_range → aB,map_map → aK,length_append → aO,take_length → aT,getElem_append_right → ba,map_cons → bc,getElem_cons_zero → bj,drop_of_length_le → bm,perm_append_comm → bA,not_mem_nil → bH,length_cons → bI,replicate → bK,mem_cons → bN,foldl → bV
open Nat renaming le_refl → ae,le_trans → ax,dvd_trans → aN,le_max_right → aV,dvd_mul_left → aW,zero_le → aY,dvd_of_mod_eq_zero → bz,pow_lt_pow_right → bB,lt_of_lt_of_le → bF,dvd_mul_right → bG,strongRecOn → bJ,zero_add → bS,sub_self → bT,mul_pos → bU
open Go.Value renaming bool → av,int → aE
open Int renaming toNat_natCast → aD,natAbs_natCast → aI,natCast_pow → bL,natCast_mul → bM
open Bool renaming or_eq_false_iff → aH,not_eq_false' → aP,and_eq_true → aU
open Option.some renaming inj → bh
open Option renaming map_some → bD
open Go.Lib renaming decDigits → bO
namespace Go.Proofs.YtbpmnjieoncbcaaGreatDoor
variable{i k n:Nat}{A M a c h m:Rat}{b:Int}{X:J3}{y:X5}{w:World}{F:Gs}{s:List UInt8}
open Go.RowKit Ig
theorem Xa5{rs:List (List Tm)}{t:J3}{box:List J3}(hi:i<box.length){j:Nat}:∀k,j<=k->el (el (Jb rs t box k) i) j=el (el (Jb rs t box j) i) j
 |0,h=>by
  obtain rfl:j=0:=O;rfl
 |k+1,h=>by
  by_cases e:j=k+1
  ·subst e;rfl
  rw[<-Xa5 hi k O,Jb,Yj _ hi];have hl:=Zj rs t box k hi;rw[JW (by rw[aO,hl];omega),List.getElem_append_left O,<-JW]
theorem Xau{a b:List J3}{p q:Nat->Rat}:∀i,i<=k+1->(∀j,j<i->Wx (p j) (el a j)/\Wx (q j) (el b (k-j))) ->
  Wx ((af i).foldl (λs j=>s+p j*q j) 0) (Gc a b k i)
 |0,_,_=>⟨aa,aa⟩
 |i+1,hi,h=>by
  unfold Gc;rw[aq,ab,ab];exact Xa8 (Xau i O λj hj=>h j O) (GG (h i O).1 (h i O).2)
theorem Xbs{n:Nat}{f:Nat->Rat}(h:∀j,j<n->f j=c):(af n).foldl (λs j=>s+f j) 0=(n:Rat)*c:=by
 have key:∀i,i<=n->(af i).foldl (λs j=>s+f j) 0=(i:Rat)*c:=by
  intro i
  induction i with
  |zero=>intro _;simp
  |succ i ih =>
   intro hi;rw[aq,ab,ih O];show(i:Rat)*c+f i=_;rw[h i O,show((i+1:Nat):Rat)=(i:Rat)+1 from Rat.natCast_add i 1]
   grind
 exact key n (ae _)
def Xcp(c:Rat)(n j:Nat)(h:j<=n):Wx (if j=0 then c else 0) (el (Hx c n) j):=by
 cases j with
 |zero=>exact⟨aa,aa⟩
 |succ j =>
  rw[if_neg O];show Wx 0 (el (bK n ((0,0):J3)) j);rw[JW (by simpa using(by omega:j<n))];simp[Wx,aa]
theorem Xb1{v:List J3}{j:Nat}(hj:j<=k){x:Rat}(hx:Wx x (el v j)):(∀i,i<=j->∃y,Wx y (el v i))->Wx (c*x) (el (WD (Hx c k) v) j):=by
 intro hne;unfold WD;rw[GS,Yj _ O];have hy:∀i,∃y,i<=j->Wx y (el v (j-i)):=λi=>by
  obtain⟨y,hy⟩:=hne (j-i) O;exact⟨y,λ_=>hy⟩
 have:=Xau (a:=Hx c k) (b:=v) (k:=j) (p:=λi=>if i=0 then c else 0) (q:=λi=>if i=0 then x else Classical.choose (hy i)) (j+1) (ae _) λi hi=>by
  refine⟨Xcp c k i O,?_⟩;by_cases e:i=0
  ·subst e;rw[if_pos rfl];exact hx
  rw[if_neg e];exact Classical.choose_spec (hy i) O
 have e:(af (j+1)).foldl (λs i=>s+(if i=0 then c else 0)*(if i=0 then x else Classical.choose (hy i))) 0=c*x:=by
  have key:∀n,(af (n+1)).foldl (λs i=>s+(if i=0 then c else 0)*(if i=0 then x else Classical.choose (hy i))) 0=c*x:=by
   intro n
   induction n with
   |zero=>show 0+(if 0=0 then c else 0)*_=_;rw[if_pos rfl,if_pos rfl,aQ]
   |succ n ih =>
    rw[aq,ab,ih];show c*x+(if n+1=0 then c else 0)*_=_;rw[if_neg O,aL,aS]
  exact key j
 rw[e]at this;exact this
def prY(ys:Nat->Rat)(s:Nat):Nat->Rat
 |0=>1
 |m+1=>prY ys s m*ys (s+m)
def Xck(ys:Nat->Rat)(s m:Nat):∀n,prY ys s (m+n)=prY ys s m*prY ys (s+m) n
 |0=>by show _=_*1;rw[aM];rfl
 |n+1=>by
  show prY ys s (m+n)*ys (s+(m+n))=prY ys s m*(prY ys (s+m) n*ys (s+m+n));rw[Xck ys s m n,aG,Nat.add_assoc]
theorem Xci{t W:J3}{ys:Nat->Rat}(hy:∀i,Wx (ys i) W):∀k s,Wx (a^k*prY ys s (k+1)) (el (el (Jb (Xa0 a) t [W] k) 0) k):=by
 intro k
 induction k using bJ with
 |_ k ih =>
  intro s;cases k with
  |zero =>
   show Wx (a^0*(1*ys (s+0))) W;rw[ao,aJ,aJ];exact hy _
  |succ k =>
   have hv:∀j,j<=k->∀s,Wx (a^j*prY ys s (j+1)) (el (el (Jb (Xa0 a) t [W] k) 0) j):=λj hj s=>by
    rw[Xa5 wz k hj];exact ih j O s
   have hl:=Zj (Xa0 a) t [W] k (i:=0) wz;rw[Jb,Yj _ wz,JW (by rw[aO,hl];simp),ba O];simp only[hl,bT,bj];have e:Kc (el (Xa0 a) 0) (Zy t k::Jb (Xa0 a) t [W] k) k=Hq (Hx 0 k) (WD (WD (Hx a k) (el (Jb (Xa0 a) t [W] k) 0)) (el (Jb (Xa0 a) t [W] k) 0)):=by
    show Hq (Hx 0 k) (Wl a [0,2] (Zy t k::Jb (Xa0 a) t [W] k) k (Zy t k::Jb (Xa0 a) t [W] k).length)=_;rw[bI,Zp];rfl
   rw[e];generalize el (Jb (Xa0 a) t [W] k) 0=v at *
   have m1:∀j,j<=k->Wx (a*(a^j*prY ys s (j+1))) (el (WD (Hx a k) v) j):=λj hj =>
    Xb1 hj (hv j hj s) λi hi=>⟨_,hv i O 0⟩
   have m2:Wx ((af (k+1)).foldl (λs' j=>s'+(a*(a^j*prY ys s (j+1)))*(a^(k-j)*prY ys (s+(j+1)) (k-j+1))) 0) (el (WD (WD (Hx a k) v) v) k):=by
    rw[WD,MD,GS,Yj _ O];exact Xau (k+1) (ae _) λj hj=>⟨m1 j O,hv (k-j) O _⟩
   have hc:∀j,j<k+1->(a*(a^j*prY ys s (j+1)))*(a^(k-j)*prY ys (s+(j+1)) (k-j+1))=a^(k+1)*prY ys s (k+1+1):=λj hj=>by
    rw[show k+1+1=(j+1)+(k-j+1) by omega,Xck ys s (j+1) (k-j+1),show a^(k+1)=a^j*a^(k-j)*a by rw[<-Xa9,<-aj];congr 1;omega];generalize prY ys s (j+1)=A;generalize prY ys (s+(j+1)) (k-j+1)=B;generalize a^j=C;generalize a^(k-j)=D;clear ih hv m1 m2 hl e
    grind
   rw[Xbs hc]at m2;have m3:Wx (0+((k+1:Nat):Rat)*(a^(k+1)*prY ys s (k+1+1))) (el (Hq (Hx 0 k) (WD (WD (Hx a k) v) v)) k):=by
    rw[Hq,GS,Yj _ O];refine Xa8 ?_ m2;have:=Xcp 0 k k (ae _)
    rwa [ite_self]at this
   have m4:=GG m3 (show Wx ((((k+1:Nat):Int):Rat)⁻¹) ((((k+1:Nat):Int):Rat)⁻¹,(((k+1:Nat):Int):Rat)⁻¹)from⟨aa,aa⟩);have hk:(((k+1:Nat):Int):Rat)≠0:=by
    intro h;have:((k+1:Nat):Int)=0:=by exact_mod_cast h
    omega
   have e2:(0+((k+1:Nat):Rat)*(a^(k+1)*prY ys s (k+1+1)))*(((k+1:Nat):Int):Rat)⁻¹=a^(k+1)*prY ys s (k+1+1):=by
    have e3:((k+1:Nat):Rat)=(((k+1:Nat):Int):Rat):=rfl;rw[e3,aQ,bQ,<-aG,aA _ hk,aJ]
   rw[e2]at m4;exact m4
theorem Xab(ys:Nat->Rat)(x:Rat)(s:Nat):∀m,(∀i,i<m->ys (s+i)=x)->prY ys s m=x^m
 |0,_=>(ao x).symm
 |m+1,h=>by
  show prY ys s m*ys (s+m)=_;rw[Xab ys x s m λi hi=>h i O,h m O,aj]
def Xbt{l:List J3}{c:Nat->Rat}:∀n,(∀k,k<n->Wx (c k) (el l k))->Wx ((af n).foldl (λs k=>s+c k*h^k) 0) (G8 l h n)
 |0,_=>⟨aa,aa⟩
 |n+1,hc=>by
  unfold G8;rw[aq,ab,ab];exact Xa8 (Xbt n λk hk=>hc k O) (GG (hc n O) ⟨aa,aa⟩)
theorem geo{x0 x:Rat}(hx:x*(1-a*x0*h)=x0):∀n,x=(af n).foldl (λs k=>s+(a^k*x0^(k+1))*h^k) 0+(a^n*x0^n*x)*h^n
 |0=>by
  show x=0+(a^0*x0^0*x)*h^0;rw[ao,ao,ao];grind
 |n+1=>by
  rw[aq,ab];have ih:=geo hx n;show x=(bV _ 0 (af n)+(a^n*x0^(n+1))*h^n)+_;generalize bV (λs k=>s+(a^k*x0^(k+1))*h^k) 0 (af n)=S at ih ⊢;rw[aj,aj,aj];generalize a^n=A at ih ⊢;generalize x0^n=B at ih ⊢;generalize h^n=C at ih ⊢;have e:x=x0+a*x0*h*x:=by grind
  have e2:A*B*x*C=A*B*(x0+a*x0*h*x)*C:=by rw[<-e]
  grind
theorem Xcy{fr t2 x0:Rat}{W:J3}(hx:Wx x0 X)(hW:W.1<=W.2)(ht:fr<=t2)(hg:U7 (Z4 (Xa0 a) fr t2 [X] [W]) [W]=true)(n:Nat):
  0<1-a*x0*(t2-fr)/\Wx (x0/(1-a*x0*(t2-fr))) (el (Xy (Xa0 a) fr t2 [X] [W] n) 0):=by
 obtain⟨k0,k1⟩:=Xbv hx hW ht hg (s:=t2-fr) (by grind) aa;obtain⟨_,k2⟩:=Xbv hx hW ht hg (s:=0) aa (by grind);refine⟨k0,?_⟩;have k3:Wx x0 W:=by
  rw[bP,show(1:Rat)-0=1 by grind,ar,show((1:Rat))⁻¹=1 by decide +kernel,aM]at k2;exact k2
 have hx1:x0/(1-a*x0*(t2-fr))*(1-a*x0*(t2-fr))=x0:=by rw[ar,aG,aA _ (by grind),aM]
 have hg2:=geo hx1 (n+1);generalize x0/(1-a*x0*(t2-fr))=x at *
 show Wx x (Vv (G8 (el (Jb (Xa0 a) (fr,fr) [X] n) 0) (t2-fr) (n+1)) (Jg (el (el (Jb (Xa0 a) (fr,t2) [W] (n+1)) 0) (n+1)) ((t2-fr)^(n+1),(t2-fr)^(n+1))));rw[hg2];refine Xa8 (Xbt (n+1) λk hk=>?_) (GG ?_ ⟨aa,aa⟩)
 ·rw[Xa5 wz n O];have:=Xci (a:=a) (t:=(fr,fr)) (W:=X) (ys:=λ_=>x0) (λ_=>hx) k 0
  rwa [Xab _ x0 0 (k+1) λ_ _=>rfl]at this
 have:=Xci (a:=a) (t:=(fr,t2)) (W:=W) (ys:=λi=>if i=n+1 then x else x0) (λi=>by split;exact k1;exact k3) (n+1) 0;have e:prY (λi=>if i=n+1 then x else x0) 0 (n+1+1)=x0^(n+1)*x:=by
  show prY _ 0 (n+1)*_=_;rw[Xab _ x0 0 (n+1) λi hi=>by rw[if_neg O]];show _*(if 0+(n+1)=n+1 then x else x0)=_;rw[if_pos O]
 rw[e,<-aG]at this;exact this
theorem Xcj(a:Rat):jk (Xa0 a) 1:=by
 intro i hi t ht;obtain rfl:i=0:=O;have ht:t∈[((a,[0,2]):Tm)]:=ht;rw[List.mem_singleton]at ht;subst ht;exact⟨wz,wz⟩
def Xaa{l:List J3}(h:l.length=1):l=[el l 0]:=by
 match l,h with
 |[x],_=>rfl
theorem Xd1{t u:Rat}(h:0<1-a*c*t):1-a*(c/(1-a*c*t))*(u-t)=(1-a*c*u)/(1-a*c*t):=by
 rw[ar,ar];have e:=bC (1-a*c*t) (by grind);generalize (1-a*c*t)⁻¹=q at *
 grind
def Xbp(rs:List (List Tm))(n:Nat)(b:Int)(fr:Rat)(x:List J3)(e:Rat)(es:List Rat):Gf rs n b fr x (e::es)=match KP rs fr e x n b with
  |none=>none
  |some (w,l)=>(Gf rs n b e l es).map λr=>(e,w,l)::r:=rfl
theorem Xcx(es:List Rat):∀(fr:Rat) (X:J3) (tb:List (Rat×List J3×List J3)),X.1<=X.2->0<1-a*c*fr->Wx (c/(1-a*c*fr)) X ->
  (∀i,i<es.length->(if i=0 then fr else el es (i-1))<=el es i)->Gf (Xa0 a) n b fr [X] es=some tb ->
  tb.length=es.length/\∀i,i<es.length->(el tb i).1=el es i/\0<1-a*c*el es i/\(el tb i).2.2.length=1/\(el tb i).2.1.length=1/\Wx (c/(1-a*c*el es i)) (el (el tb i).2.2 0):=by
 induction es with
 |nil =>
  intro fr X tb _ _ _ _ h;obtain rfl:[]=tb:=bh h;exact⟨rfl,λi hi=>by cases hi⟩
 |cons e es ih =>
  intro fr X tb hX h0 hx ho h;rw[Xbp]at h;unfold KP at h;cases hp:Yq (Xa0 a) fr e [X] b with
  |none=>rw[hp]at h;simp at h
  |some W =>
   rw[hp]at h;simp only[bD]at h;have ht:fr<=e:=ho 0 wz;obtain⟨v,hl,hg,_,hW,hgood⟩:=zo (x:=[X]) (λi hi=>by
    obtain rfl:i=0:=by simpa using hi
    exact hX) ht (Xcj a) hp
   have hWl:W.length=1:=by rw[hW.1,hl];rfl
   have hWe:=Xaa hWl;have hW1:(el W 0).1<=(el W 0).2:=hW.ord 0 O;rw[hWe]at hgood;obtain⟨k0,k1⟩:=Xcy hx hW1 ht hgood n;rw[Xd1 h0]at k0 k1;have k0':0<1-a*c*e:=by
    have:=aZ k0 h0;rw[aL,ar,aG,aA _ (by grind),aM]at this;exact this
   have e1:c/(1-a*c*fr)/((1-a*c*e)/(1-a*c*fr))=c/(1-a*c*e):=by
    rw[ar,ar,ar,ar,Rat.inv_mul_rev,Rat.inv_inv];have:=aA (1-a*c*fr) (by grind);generalize (1-a*c*fr)⁻¹=q at *
    grind
   rw[e1]at k1;rw[<-hWe]at k1;generalize hL:(Xy (Xa0 a) fr e [X] W n).map (Z7 · b)=L at h;have hLl:L.length=1:=by rw[<-hL];simp[Xy]
   have k2:Wx (c/(1-a*c*e)) (el L 0):=by
    rw[<-hL,DQ _ (by simp[Xy])];have hord:(el (Xy (Xa0 a) fr e [X] W n) 0).1<=(el (Xy (Xa0 a) fr e [X] W n) 0).2:=aR k1.1 k1.2;exact k1.sub (yA hord b)
   have hLe:=Xaa hLl;cases ht2:Gf (Xa0 a) n b e L es with
   |none=>rw[ht2]at h;simp at h
   |some r =>
    rw[ht2]at h;obtain rfl:(e,W,L)::r=tb:=by simpa using h
    rw[hLe]at ht2;obtain⟨r1,r2⟩:=ih e (el L 0) r (aR k2.1 k2.2) k0' k2 (λi hi=>by
     have:=ho (i+1) (by simpa using hi);cases i with
     |zero=>exact this
     |succ i=>exact this) ht2
    refine⟨by simp[r1],λi hi=>?_⟩;cases i with
    |zero=>exact⟨rfl,k0',hLl,hWl,k2⟩
    |succ i=>exact r2 i (by simpa using hi)
def mgS(a:J3)(m:Rat):Prop:=(-m<=a.1/\a.1<=m)/\(-m<=a.2/\a.2<=m)
theorem Xa3{x y n:Rat}(hx : -m<=x/\x<=m)(hy : -n<=y/\y<=n): -(m*n)<=x*y/\x*y<=m*n:=by
 have h1:=aC (show 0<=m-x by grind) (show 0<=n-y by grind);have h2:=aC (show 0<=m+x by grind) (show 0<=n+y by grind);have h3:=aC (show 0<=m-x by grind) (show 0<=n+y by grind);have h4:=aC (show 0<=m+x by grind) (show 0<=n-y by grind);constructor<;>grind
theorem mgS.times{a b:J3}{n:Rat}(ha:mgS a m)(hb:mgS b n):mgS (Jg a b) (m*n):=by
 have h:=NH (a.1*b.1) [a.1*b.2,a.2*b.1,a.2*b.2];have key:∀y∈a.1*b.1::[a.1*b.2,a.2*b.1,a.2*b.2],-(m*n)<=y/\y<=m*n:=by
  intro y hy;simp only[bN,bH,or_false]at hy;rcases hy with rfl | rfl | rfl | rfl
  ·exact Xa3 ha.1 hb.1
  ·exact Xa3 ha.1 hb.2
  ·exact Xa3 ha.2 hb.1
  exact Xa3 ha.2 hb.2
 exact⟨key _ h.1,key _ h.2⟩
theorem mgS.add{a b:J3}{n:Rat}(ha:mgS a m)(hb:mgS b n):mgS (Vv a b) (m+n):=by
 obtain⟨⟨a1,a2⟩,a3,a4⟩:=ha;obtain⟨⟨b1,b2⟩,b3,b4⟩:=hb;refine⟨⟨?_,?_⟩,?_,?_⟩<;>(unfold Vv;grind)
def mgS.pt{x:Rat}(h : -m<=x/\x<=m):mgS (x,x) m:=⟨h,h⟩
theorem mgS.mono{a:J3}{n:Rat}(h:mgS a m)(k:m<=n):mgS a n:=by
 obtain⟨⟨a1,a2⟩,a3,a4⟩:=h;exact⟨⟨by grind,by grind⟩,by grind,by grind⟩
theorem Xbm{a b:List J3}{p q:Nat->Rat}:∀i,i<=k+1->(∀j,j<i->mgS (el a j) (p j)/\mgS (el b (k-j)) (q j)) ->
  mgS (Gc a b k i) ((af i).foldl (λs j=>s+p j*q j) 0)
 |0,_,_=>show mgS (0,0) 0 from mgS.pt ⟨wv,aa⟩
 |i+1,hi,h=>by
  unfold Gc;rw[aq,ab,ab];exact(Xbm i O λj hj=>h j O).add ((h i O).1.times (h i O).2)
def Xd6(c:Rat){ca:Rat}(hc : -ca<=c/\c<=ca)(n j:Nat)(h:j<=n):mgS (el (Hx c n) j) (if j=0 then ca else 0):=by
 cases j with
 |zero=>exact mgS.pt hc
 |succ j =>
  rw[if_neg O];show mgS (el (bK n ((0,0):J3)) j) 0;rw[JW (by simpa using(by omega:j<n))];rw[List.getElem_replicate];exact mgS.pt ⟨wv,aa⟩
theorem Xbk{ca:Rat}(hc : -ca<=c/\c<=ca){v:List J3}{k j:Nat}(hj:j<=k){m:Nat->Rat}(hv:∀i,i<=j->mgS (el v i) (m i)):mgS (el (WD (Hx c k) v) j) (ca*m j):=by
 unfold WD;rw[GS,Yj _ O];have:=Xbm (a:=Hx c k) (b:=v) (k:=j) (p:=λi=>if i=0 then ca else 0) (q:=λi=>m (j-i)) (j+1) (ae _) λi hi=>⟨Xd6 c hc k i O,hv (j-i) O⟩;have e:(af (j+1)).foldl (λs i=>s+(if i=0 then ca else 0)*m (j-i)) 0=ca*m j:=by
  have key:∀n,(af (n+1)).foldl (λs i=>s+(if i=0 then ca else 0)*m (j-i)) 0=ca*m j:=by
   intro n
   induction n with
   |zero=>show 0+(if 0=0 then ca else 0)*_=_;rw[if_pos rfl,aQ];rfl
   |succ n ih =>
    rw[aq,ab,ih];show ca*m j+(if n+1=0 then ca else 0)*_=_;rw[if_neg O,aL,aS]
  exact key j
 rw[e]at this;exact this
theorem Xd0{t W:J3}(ha : -A<=a/\a<=A)(hW:mgS W M):∀k,mgS (el (el (Jb (Xa0 a) t [W] k) 0) k) (A^k*M^(k+1)):=by
 intro k
 induction k using bJ with
 |_ k ih =>
  cases k with
  |zero =>
   show mgS W (A^0*M^(0+1));rw[ao,aJ,aj,ao,aJ];exact hW
  |succ k =>
   have hv:∀j,j<=k->mgS (el (el (Jb (Xa0 a) t [W] k) 0) j) (A^j*M^(j+1)):=λj hj=>by
    rw[Xa5 wz k hj];exact ih j O
   have hl:=Zj (Xa0 a) t [W] k (i:=0) wz;rw[Jb,Yj _ wz,JW (by rw[aO,hl];simp),ba O];simp only[hl,bT,bj];have e:Kc (el (Xa0 a) 0) (Zy t k::Jb (Xa0 a) t [W] k) k=Hq (Hx 0 k) (WD (WD (Hx a k) (el (Jb (Xa0 a) t [W] k) 0)) (el (Jb (Xa0 a) t [W] k) 0)):=by
    show Hq (Hx 0 k) (Wl a [0,2] (Zy t k::Jb (Xa0 a) t [W] k) k (Zy t k::Jb (Xa0 a) t [W] k).length)=_;rw[bI,Zp];rfl
   rw[e];generalize el (Jb (Xa0 a) t [W] k) 0=v at *
   have m1:∀j,j<=k->mgS (el (WD (Hx a k) v) j) (A*(A^j*M^(j+1))):=λj hj =>
    Xbk ha hj (m:=λj=>A^j*M^(j+1)) λi hi=>hv i O
   have m2:mgS (el (WD (WD (Hx a k) v) v) k) ((af (k+1)).foldl (λs j=>s+(A*(A^j*M^(j+1)))*(A^(k-j)*M^(k-j+1))) 0):=by
    rw[WD,MD,GS,Yj _ O];exact Xbm (k+1) (ae _) λj hj=>⟨m1 j O,hv (k-j) O⟩
   have hc:∀j,j<k+1->(A*(A^j*M^(j+1)))*(A^(k-j)*M^(k-j+1))=A^(k+1)*M^(k+1+1):=λj hj=>by
    rw[show k+1+1=(j+1)+(k-j+1) by omega,Xa9 M (j+1) (k-j+1),show A^(k+1)=A^j*A^(k-j)*A by rw[<-Xa9,<-aj];congr 1;omega];generalize M^(j+1)=B;generalize M^(k-j+1)=B2;generalize A^j=C;generalize A^(k-j)=D;clear ih hv m1 m2 hl e
    grind
   rw[Xbs hc]at m2;have m3:mgS (el (Hq (Hx 0 k) (WD (WD (Hx a k) v) v)) k) (0+((k+1:Nat):Rat)*(A^(k+1)*M^(k+1+1))):=by
    rw[Hq,GS,Yj _ O];refine mgS.add ?_ m2;have:=Xd6 0 (ca:=0) ⟨wv,aa⟩ k k (ae _)
    rwa [ite_self]at this
   have hkp:(0:Rat)<(((k+1:Nat):Int):Rat):=(bw (a:=0) (b:=((k+1:Nat):Int))).2 O;have hip:=Rat.inv_pos.2 hkp;have m4:=m3.times (mgS.pt (x:=(((k+1:Nat):Int):Rat)⁻¹) (m:=(((k+1:Nat):Int):Rat)⁻¹) ⟨by grind,aa⟩);have e2:(0+((k+1:Nat):Rat)*(A^(k+1)*M^(k+1+1)))*(((k+1:Nat):Int):Rat)⁻¹=A^(k+1)*M^(k+1+1):=by
    have e3:((k+1:Nat):Rat)=(((k+1:Nat):Int):Rat):=rfl;rw[e3,aQ,bQ,<-aG,aA _ (by grind),aJ]
   rw[e2]at m4;exact m4
theorem Xcd{fr t2 x0:Rat}{W:J3}(hx:Wx x0 X)(ht:fr<=t2)(hg:U7 (Z4 (Xa0 a) fr t2 [X] [W]) [W]=true){y s:Rat}(hy:Wx y W)(h0:0<=s)(hs:s<=t2-fr):Wx (x0+s*(a*(y*y))) W:=by
 rw[N0]at hg;have hg:=hg 0 (by simp[Z4]);have e:el (Z4 (Xa0 a) fr t2 [X] [W]) 0=Vv X (Jg (0,t2-fr) (XM [(fr,t2),W] [(a,[0,2])])):=rfl;rw[e]at hg;have hm:=Xb2 (rs:=[(fr,t2),W]) (xs:=[fr,y]) (l:=[(a,[0,2])]) wz (λi hi=>by
  have:i=0\/i=1:=by simp at hi;omega
  rcases this with rfl | rfl
  ·exact⟨aa,ht⟩
  exact hy)
 rw[Xc9]at hm;have:=Xa8 hx (GG (show Wx s (0,t2-fr)from⟨h0,hs⟩) hm);exact⟨aR hg.1 this.1,aR this.2 hg.2⟩
theorem Xe0{fr t2 x0:Rat}{W:J3}(hx:Wx x0 X)(hW:W.1<=W.2)(ht:fr<t2)(hg:U7 (Z4 (Xa0 a) fr t2 [X] [W]) [W]=true)(hA:0<A)(ha:a=A\/a = -A)(hM:(t2-fr)*A*M=2):mgS W M:=by
 have e1:Wx W.2 W:=⟨hW,aa⟩;have e0:Wx W.1 W:=⟨aa,hW⟩;have hh:0<t2-fr:=by grind
 have hx0:=Xcd hx (ak ht) hg e1 aa (ak hh);rw[aL,aS]at hx0;have hq:0<(t2-fr)*A:=Rat.mul_pos hh hA;have key:∀y,Wx y W->(t2-fr)*A*(y*y)<=W.2-W.1:=λy hy=>by
  have:=Xcd hx (ak ht) hg hy (ak hh) aa;unfold Wx at this hx0;rcases ha with rfl | rfl<;>grind
 have k1:=key W.1 e0;have k2:=key W.2 e1;generalize (t2-fr)*A=q at *
 have big:∀y B:Rat,0<=B->q*(B*B)<=B+B->B<=M:=λy B hB h=>by
  refine Rat.not_lt.1 λhc=>?_;have hB2:0<B:=by
   have hMp:0<M:=by
    refine Rat.not_le.1 λhm=>?_;have:=aC (ak hq) (show 0<=-M by grind)
    grind
   grind
  have m1:=aZ hc (Rat.mul_pos hq hB2);have e2:M*(q*B)=2*B:=by rw[<-hM];grind
  grind
 have dic:∀y:Rat,0<=y\/0<=-y:=λy=>by rcases bR (a:=0) (b:=y)with h | h;exact .inl h;exact .inr (by grind)
 unfold mgS;rcases dic W.1 with g1 | g1<;>rcases dic W.2 with g2 | g2
 ·have:=big 0 W.2 g2 (by grind);refine⟨⟨?_,?_⟩,?_,?_⟩<;>grind
 ·have:=big 0 (-W.1) (by grind) (by grind);refine⟨⟨?_,?_⟩,?_,?_⟩<;>grind
 ·by_cases hle : -W.1<=W.2
  ·have:=big 0 W.2 g2 (by grind);refine⟨⟨?_,?_⟩,?_,?_⟩<;>grind
  have:=big 0 (-W.1) g1 (by grind);refine⟨⟨?_,?_⟩,?_,?_⟩<;>grind
 have:=big 0 (-W.1) g1 (by grind);refine⟨⟨?_,?_⟩,?_,?_⟩<;>grind
def Xa6(hh:0<=h):∀n:Nat,0<=h^n
 |0=>by rw[ao];decide +kernel
 |n+1=>by rw[aj];exact aC (Xa6 hh n) hh
theorem Xch{l:List J3}(hh:0<=h){c:Nat->Rat}:∀n,(∀k,k<n->mgS (el l k) (c k))->mgS (G8 l h n) ((af n).foldl (λs k=>s+c k*h^k) 0)
 |0,_=>show mgS (0,0) 0 from mgS.pt ⟨wv,aa⟩
 |n+1,hc=>by
  unfold G8;rw[aq,ab,ab];have:=Xa6 hh n;exact(Xch hh n λk hk=>hc k O).add ((hc n O).times (mgS.pt ⟨by grind,aa⟩))
theorem Xbu{fr t2:Rat}{W:J3}(ha : -A<=a/\a<=A)(hX:mgS X M)(hW:mgS W M)(ht:fr<=t2)(n:Nat):
  mgS (el (Xy (Xa0 a) fr t2 [X] [W] n) 0) ((af (n+1)).foldl (λs k=>s+(A^k*M^(k+1))*(t2-fr)^k) 0+(A^(n+1)*M^(n+1+1))*(t2-fr)^(n+1)):=by
 have hh:0<=t2-fr:=by grind
 rw[Xy,Yj _ wz];have:=Xa6 hh (n+1);refine(Xch hh (n+1) (c:=λk=>A^k*M^(k+1)) λk hk=>?_).add ((Xd0 ha hW (n+1)).times (mgS.pt ⟨by grind,aa⟩));rw[Xa5 wz n O];exact Xd0 ha hX k
theorem Xd3{a:J3}(h:mgS a (((2:Int)^k:Int):Rat)):Sm (k+b.toNat+2) (Z7 a b):=by
 have hT:0<two b:=Int.pow_pos wu;have hTq:(0:Rat)<=((two b:Int):Rat):=ak ((bw (a:=0) (b:=two b)).2 hT);have key:∀p:Int,(-(2^k*two b)<=p/\p<=2^k*two b)->JU (ag p (two b))<=k+b.toNat+2:=λp hp=>by
  refine ax (VY O) ?_;have e:two b=((2^b.toNat:Nat):Int):=by unfold two;rw[bL];rfl
  have s1:sz (two b)<=k+b.toNat+2:=by
   rw[XO,e,aI];exact bB wu O
  have s2:sz p<=k+b.toNat+2:=by
   rw[XO];have e2:(2:Int)^k*two b=((2^(k+b.toNat):Nat):Int):=by rw[e,Nat.pow_add,bM,bL 2 k];rfl
   rw[e2]at hp;have:2^(k+b.toNat)<2^(k+b.toNat+2):=bB wu O;omega
  exact Nat.max_le.2 ⟨s2,s1⟩
 have mul:∀x:Rat,(-(((2:Int)^k:Int):Rat)<=x/\x<=(((2:Int)^k:Int):Rat))->-(((2^k*two b:Int)):Rat)<=x*((two b:Int):Rat)/\x*((two b:Int):Rat)<=((2^k*two b:Int):Rat):=λx hx=>by
  rw[Rat.intCast_mul];have m1:=aF hx.1 hTq;have m2:=aF hx.2 hTq;rw[Rat.neg_mul]at m1;exact⟨m1,m2⟩
 refine⟨key _ (Fq (mul _ h.1)),key _ ?_⟩;have:=Fq (c:=2^k*two b) (x:=-(a.2*((two b:Int):Rat))) (by have:=mul _ h.2;constructor<;>grind);omega
def gp(s:List UInt8×List UInt8):Bool:=!(decide ((s.1.length:Int)>40)||decide ((s.2.length:Int)>40))
theorem Ns{n:Nat}{r:Sr}{l:List (List UInt8×List UInt8)}(hF:Fits F w)(hx:KO F r l)(hc:GZ r l):Qg prog 20 [.int .i64 (n:Int),r.v] w F (.int .i64 (YN n l)):=by
 have hl:=hx.len;have hn:=hc.n;refine QV.intro (G:=λF=>KO F r l) func20 rfl wy rfl rfl hF (λF' hF'=>hx.le hF')<|QI7<|wQ rfl<|QG<|wR rfl<|QA (Qh rfl J9)<|QH0 rfl<|QA (QT rfl rfl rfl)<|QE<|QC ?_
 refine QR I (λhc2=>?_) λhc2=>?_
 ·have h8:=bne_iff_ne.1 hc2;refine wA 6 I ?_;exact QJO I I (congrArg (aE .i64) (by unfold YN;rw[if_pos O])) w8
 have h8:=bne_eq_false_iff_eq.1 hc2;refine QJL 5 I<|QI I (λ_ _ f k=>jZ f k.row ⟨hl,hc.t⟩ hn) λ_=>wQ I<|QY ?_
 exact QJO I I (congrArg (aE .i64) (by unfold YN;rw[if_neg O])) w8
structure ve(y:X5):Prop where
 nn:y.nm.n<=9223372036854775807
 nc:y.nm.n<=y.nm.cap
 nt:∀s∈y.nl,s.length<=9223372036854775807
 rn:y.rt.n<=9223372036854775807
 sn:y.st.n<=9223372036854775807
 rl:∀e∈y.rl,e.2.length=e.1.n/\e.1.n<=9223372036854775807/\∀t∈e.2,t.k.length=t.r.n
def shT(t:E6):Bool:=!(decide ((t.r.n:Int)>30)||decide ((t.f.length:Int)>30))
def shP(e:SD):Bool:=!(decide ((e.1.n:Int)>70))&&e.2.all shT
def shN(y:X5):Bool:=decide ((y.nm.n:Int)>30)||decide ((y.rt.n:Int)>30)||decide ((y.st.n:Int)>30)
def shS(y:X5):Bool:=!(shN y)&&(y.rl.all shP&&y.sl.all gp)
def jm(y:X5)(v g:Int):Bool:=!(!(shS y)||(y.e != 0)||decide ((y.rt.n:Int)>v)||(!(decide ((y.st.n:Int)<=v)&&y.sl.all (Uz g))&&decide ((y.st.n:Int)>0)))
def jl(y:X5)(v d g:Int):Bool:=jm y v g&&y.rl.all λe=>fpB (YG e.2) (y.rt.n:Int) 4 d g
def pg{v g:Int}(h:jm y v g=true):shS y=true/\y.e=0/\(y.rt.n:Int)<=v/\(y.st.n=0\/((y.st.n:Int)<=v/\∀s∈y.sl,Uz g s=true)):=by
 unfold jm at h;simp only[Bool.not_eq_true',aH,aP,bne_eq_false_iff_eq,decide_eq_false_iff_not]at h;obtain⟨⟨⟨h1,h2⟩,h3⟩,h4⟩:=h;refine⟨by simpa using h1,h2,O,?_⟩;by_cases g:y.st.n=0
 ·exact .inl g
 right;have:decide ((y.st.n:Int)>0)=true:=decide_eq_true O;rw[this,Bool.and_true]at h4;simp only[aP,aU,decide_eq_true_eq,List.all_eq_true]at h4;exact h4
def gh{nl:List (List UInt8)}{rl:List Pt}{sl:List (List UInt8×List UInt8)}(h1:nl.length≠0)(h2:¬nl.length>24)(h3:rl.length=nl.length/\sl.length=nl.length):By nl rl sl=Qu [DW nl,Qu (rl.map λp=>Za p nl.length),Qu (sl.map λs=>XX s.1 s.2)]:=by
 unfold By;rw[if_neg h1,if_neg h2,if_neg O]
theorem QGZ{q:Option Addr}{c:Nat}{l:List (List UInt8)}{v:List UInt8}(hF:Fits F w)(hR:Qx F q n 1 (l.map tx))(hn:l.length=n)(hb:n<=1000000000):Qg prog 148 [.slice q n c,tx v] w F (.bool (decide (v∈l))):=by
 refine QV.intro (G:=λF=>Qx F q n 1 (l.map tx)) func148 rfl wy rfl rfl hF (λF' hF'=>hR.le hF')<|QI7<|wQ rfl<|QG<|QI7<|wQ rfl<|QW<|XK (ι:=NoI l v) [(0,_),(1,_)] (λi=>[(5,.int .i64 ((i.i:Nat):Int))]) (λi=>l.length-i.i) (⟨0,aY _,λj h=>absurd h (Nat.not_lt_zero _)⟩) wT wS λi=>?_
 simp only[ai,ah];have hi:=i.le;refine wA 5 I<|QA (Qh I Ku)<|QJK 3 I ?_
 refine QR I (λhc2=>?_) λhc2=>?_
 ·have hlt:i.i<l.length:=wk<|QJG hc2
  have hem:=Qv hlt;refine QJL 8 I<|QA (Q3 (n:=n) i.i w9 rfl rfl Ku Dq O)<|QA (Q5 (n:=n) ((i.i)*1) w9 O rfl Dq (XL (f:=tx) (l:=l) O))<|QH0 I<|QA (K6 I I)<|QE<|QC ?_
  refine QR I (λhc2=>?_) λhc2=>?_
  ·have h17:el l i.i=v:=eq_of_beq hc2;refine wA 6 I ?_
   repeat first|refine Q6 ?_|refine Qy ?_
   exact QJO I I (congrArg av (decide_eq_true (by rw[<-h17];exact hem))) w8
  have h17:¬el l i.i=v:=by simpa using hc2
  refine QO<|Qk<|QJM 3 I<|QA (Qw I I O)<|wB 2 I ?_
  exact Qm (⟨i.i+1,hlt,λj hj=>by rcases Nat.lt_succ_iff_lt_or_eq.1 hj with h | rfl;exact i.h j h;exact h17⟩) (by show l.length-(i.i+1)<l.length-i.i;omega) wU QIM w9
 have hge:l.length<=i.i:=wk<|QJH hc2
 refine Qz ?_
 repeat first|refine QZ ?_|refine QQ wy ?_
 refine Qa<|QJM 7 I ?_
 exact QJO I I (congrArg av (decide_eq_false (i.stop hge))) w8
theorem QGc{q:Option Addr}{c:Nat}{l:List (List UInt8)}{v:List UInt8}(hF:Fits F w)(hR:Qx F q n 1 (l.map tx))(hn:l.length=n)(hb:n<=1000000000):Qg prog 78 [.slice q n c,tx v] w F (.bool (decide (v∈l))):=by
 refine QV.intro (G:=λF=>Qx F q n 1 (l.map tx)) func78 rfl wy rfl rfl hF (λF' hF'=>hR.le hF')<|QI7<|wQ rfl<|wR rfl<|QH0 rfl<|QI rfl (λ_ _ f k=>QGZ f k hn hb) λ_=>wQ rfl<|QY ?_
 exact QJO I I (rfl) w8
theorem QGW(hF:Fits F w)(hGl:JE F)(hy:ZH F y)(ht:Ww y):Qg prog 23 [y.v] w F (.int .i64 y.e):=by
 obtain⟨⟨qn,nn,cn⟩,nl,⟨qr,nr,cr⟩,rl,⟨qs,ns,cs⟩,sl⟩:=y;have hnl:=hy.jg;have hrl:=hy.Kx;have hsl:=hy.P3;have hnn:=ht.nn;have hrn:=ht.rn;have hsn:=ht.sn;dsimp only at *
 dsimp only[X5.v];refine QV.intro (G:=λF=>JE F/\ZH F ⟨⟨qn,nn,cn⟩,nl,⟨qr,nr,cr⟩,rl,⟨qs,ns,cs⟩,sl⟩) func23 rfl wy rfl rfl hF (λF' hF'=>⟨hGl.le hF',hy.le hF'⟩)<|QI7<|Qs rfl (vs:=[_,_,_]) rfl λb1=>wQ rfl<|QI7<|QA (QH rfl Hl VG)<|QA (Qf rfl VG .here .h1)<|QA (Qh rfl Ku)<|wQ rfl<|QG<|wR rfl<|QA (QT rfl rfl rfl)<|QE<|QC ?_
 refine QR I (λhc2=>?_) λhc2=>?_
 ·have h11:nl.length=0:=by have:(nn:Int)=0:=eq_of_beq hc2;omega
  refine wA 6 I ?_;exact QJO I I (congrArg (aE .i64) (by show By nl (rl.map λe=>YG e.2) sl=12;unfold By;rw[if_pos h11])) w8
 have h11:nl.length≠0:=by have:¬(nn:Int)=0:=(by simpa using hc2);omega
 refine QJL 9 I ?_;refine QR I (λhc2=>?_) λhc2=>?_
 ·have h13:nl.length>24:=wk<|QJG hc2
  refine wA 6 I ?_;exact QJO I I (congrArg (aE .i64) (by show By nl (rl.map λe=>YG e.2) sl=5;unfold By;rw[if_neg h11,if_pos h13])) w8
 have h13:¬nl.length>24:=wk<|QJH hc2
 refine QJL 3 I ?_;refine Zc [(1,_),(3,_)] [(25,.bool (((nr:Int) != nn||(ns:Int) != nn)))] wT ?_ ?_
 ·refine QB<|QA (QH I WZ Yx)<|QA (Qf I Yx .here (.skip .h1))<|QA (Qh I V7)<|wB 3 I ?_
  refine Ql (t:=19) rfl (λhb19=>?_) λhb19=>?_
  ·refine wB 7 I ?_;exact JY ⟨rfl,rfl,(congrArg (λb=>some (av b)) (by rw[hb19];rfl)),trivial⟩ QIM w9
  refine QM I I<|QA (QH I YL JZ)<|QM I I<|QA (Qf I JZ .here (.skip (.skip .h1)))<|QM I I<|QA (Qh I J9)<|wB 6 I ?_
  exact JY ⟨rfl,rfl,(congrArg (λb=>some (av b)) (by rw[hb19];rfl)),trivial⟩ QIM w9
 simp only[ai,ah];refine QR I (λhc2=>?_) λhc2=>?_
 ·have h25:(rl.map λe=>YG e.2).length≠nl.length\/sl.length≠nl.length:=by simp only[Bool.or_eq_true,bne_iff_ne]at hc2;rw[ay];omega
  refine wA 6 I ?_;exact QJO I I (congrArg (aE .i64) (by show By nl (rl.map λe=>YG e.2) sl=2;unfold By;rw[if_neg h11,if_neg h13,if_pos h25])) w8
 have h25:(rl.map λe=>YG e.2).length=nl.length/\sl.length=nl.length:=by simp only[aH,bne_eq_false_iff_eq]at hc2;rw[ay];omega
 have h25r:rl.length=nl.length:=by rw[<-h25.1,ay]
 refine QJL 9 I<|XK (ι:=ZO (af nl.length) (EI nl)) [(1,_),(3,_)] (λi=>[(4,.int .i64 ((i.i:Nat):Int))]) (λi=>nl.length-i.i) (ZO.start _ _) wT wS λi=>?_
 simp only[ai,ah];have hi:=i.le;rw[aB]at hi;refine wA 8 I ?_;refine QR I (λhc2=>?_) λhc2=>?_
 ·have hlt:i.i<nl.length:=wk<|QJG hc2
  have hem:=Qv hlt;refine QJL 7 I<|QA (QH I Hl VG)<|QA (Qf I VG .here .h1)<|QH0 I<|QA (Q3 (n:=nn) i.i (λF h9=>h9.2.nm) rfl rfl Ku Dq O)<|QA (Q5 (n:=nn) ((i.i)*1) (λF h9=>h9.2.nm) O rfl Dq (XL (f:=tx) (l:=nl) O))<|QI I (λ_ _ f k=>QDx f (ht.nt _ hem)) λ_=>QA (XB I)<|QE<|QC ?_
  refine QR I (λhc2=>?_) λhc2=>?_
  ·have h37:(!cL (el nl i.i))=true:=hc2;have hnE:EI nl i.i≠0:=by unfold EI;rw[if_pos h37,Zl wu];decide
   refine wA 6 I ?_
   repeat first|refine Q6 ?_|refine Qy ?_
   exact QJO I I (congrArg (aE .i64) (by show By nl (rl.map λe=>YG e.2) sl=8;rw[gh h11 h13 h25];have h9:=i.hit (by rw[aB];exact hlt) (by rw[ZD hlt];exact hnE);rw[ZD hlt]at h9;rw[show DW nl=EI nl i.i from h9,Zl hnE];unfold EI;rw[if_pos h37,Zl wu])) w8
  have h37:(!cL (el nl i.i))=false:=hc2;refine QJL 3 I<|JH QIM mixed wm<|QK (QH I Hl VG)<|QK (Qf I VG .here .h1)<|QK (QD I)<|QK (NV i.i I I I Ku Dq (by have:=ht.nc;dsimp only at this;omega))<|QK (QH I Hl VG)<|QK (Qf I VG .here .h1)<|QK (QD I)<|QK (Q3 (n:=nn) i.i (λF h9=>h9.1.2.nm) rfl rfl Ku Dq O)<|QK (Q5 (n:=nn) ((i.i)*1) (λF h9=>h9.1.2.nm) O rfl Dq (XL (f:=tx) (l:=nl) O))<|QP I (λ_ _ f k=>QGc f (Qx.QCL (l:=nl) k.1.2.nm hnl hi) (by rw[List.length_take];omega) O) λ_=>Q7<|QC ?_
  refine QR I (λhc2=>?_) λhc2=>?_
  ·have h47:decide (el nl i.i∈nl.take i.i)=true:=hc2;have hnE:EI nl i.i≠0:=by unfold EI;rw[if_neg (by rw[h37];decide),if_pos h47,Zm,Zl wu];decide
   refine wA 6 I ?_
   repeat first|refine Q6 ?_|refine Qy ?_
   exact QJO I I (congrArg (aE .i64) (by show By nl (rl.map λe=>YG e.2) sl=9;rw[gh h11 h13 h25];have h9:=i.hit (by rw[aB];exact hlt) (by rw[ZD hlt];exact hnE);rw[ZD hlt]at h9;rw[show DW nl=EI nl i.i from h9,Zl hnE];unfold EI;rw[if_neg (by rw[h37];decide),if_pos h47,Zm,Zl wu])) w8
  have h47:decide (el nl i.i∈nl.take i.i)=false:=hc2;refine QO<|Qk<|QJM 3 I<|QA (Qw I I O)<|wB 2 I ?_
  exact Qm (i.next (by rw[aB];exact hlt) (by rw[ZD hlt];unfold EI;rw[if_neg (by rw[h37];decide),if_neg (by rw[h47];decide)];rfl)) (by show nl.length-(i.i+1)<nl.length-i.i;omega) wU QIM λF h=>h.1.1
 have hge:nl.length<=i.i:=wk<|QJH hc2
 have hnz:DW nl=0:=i.stop (by rw[aB];exact hge);refine Qz ?_
 repeat first|refine QZ ?_|refine QQ wy ?_
 refine Qa<|QJM 8 I<|XK (ι:=ZO rl λe=>Za (YG e.2) (nn:Int)) [(1,_),(3,_)] (λi2=>[(5,.int .i64 ((i2.i:Nat):Int))]) (λi2=>rl.length-i2.i) (ZO.start _ _) wT wS λi2=>?_
 simp only[ai,ah];have hi2:=i2.le;refine wA 8 I ?_;refine QR I (λhc2=>?_) λhc2=>?_
 ·have hlt2:i2.i<rl.length:=wk<|QJG hc2
  have hem:=Qv hlt2;refine QJL 6 I<|QA (QH I WZ Yx)<|QA (Qf I Yx .here (.skip .h1))<|QH0 I<|QA (Q3 (n:=nr) (i2.i) (λF h9=>h9.2.rt) rfl rfl V7 Wh O)<|QA (Q5 (n:=nr) ((i2.i)*1) (λF h9=>h9.2.rt) O rfl Wh (XL (f:=λe:SD=>e.1.v) (l:=rl) O))<|QH0 I<|QI I (λ_ _ f k=>I6 (q:=(el rl i2.i).1.q) (n:=(el rl i2.i).1.n) (cap:=(el rl i2.i).1.cap) f k.1 (k.2.pl _ hem).1 (k.2.pl _ hem).2 (ht.tm _ hem).1 (λt htt=>wk<|(ht.tm _ hem).2.1 t htt) (wk<|(ht.tm _ hem).2.2) O) λ_=>QJK 9 I ?_
  refine QR I (λhc2=>?_) λhc2=>?_
  ·have h61:=bne_iff_ne.1 hc2;refine wA 7 I ?_
   repeat first|refine Q6 ?_|refine Qy ?_
   exact QJO I I (congrArg (aE .i64) (by show By nl (rl.map λe=>YG e.2) sl=_;rw[gh h11 h13 h25,hnz,Zm,aK,hnl];have h9:=i2.hit hlt2 h61;rw[show Qu (rl.map ((λp=>Za p (nn:Int))∘λe=>YG e.2))=Za (YG (el rl i2.i).2) (nn:Int)from h9,Zl h61])) w8
  have h61:=bne_eq_false_iff_eq.1 hc2;refine QO<|Qk<|QJM 3 I<|QA (Qw I I O)<|wB 2 I ?_
  exact Qm (i2.next hlt2 h61) (by show rl.length-(i2.i+1)<rl.length-i2.i;omega) wU QIM tA
 have hge2:rl.length<=i2.i:=wk<|QJH hc2
 refine Qz ?_
 repeat first|refine QZ ?_|refine QQ wy ?_
 refine Qa<|QC<|QI7<|QA (QH I YL JZ)<|QA (Qf I JZ .here (.skip (.skip .h1)))<|QI I (λ_ _ f k=>jZ f k.2.st ⟨hsl,ht.st⟩ hsn) λ_=>wQ I<|QY ?_
 exact QJO I I (congrArg (aE .i64) (by show By nl (rl.map λe=>YG e.2) sl=_;rw[gh h11 h13 h25,hnz,Zm,aK,hnl];have h9:=i2.stop hge2;rw[show Qu (rl.map ((λp=>Za p (nn:Int))∘λe=>YG e.2))=0 from h9,Zm,QBs])) w8
def grL(a:Rat)(m:Nat):List Rat:=(af m).map λk=>a*(((k+1:Nat):Int):Rat)/(((m:Nat):Int):Rat)
def Xbj(a:Rat)(m:Nat):(grL a m).length=m:=by simp[grL]
def Xd4{m:Nat}(h:k<m):el (grL a m) k=a*(((k+1:Nat):Int):Rat)/(((m:Nat):Int):Rat):=by unfold grL;rw[Yj _ h]
def gB(sg n:Int):Bool:=decide (sg<=0)||(decide (n<1)||decide (n>1000))
def grE(s:List UInt8)(n:Int):Int:=if Jk s≠0 then Jk s else if gB (MG (Qo s).num) n=true then 3 else 0
def Xam{k:Nat}(h:k<=1000):JU (((k:Nat):Int):Rat)<=12:=by
 have h1:=Gh ((k:Nat):Int);have h2:sz ((k:Nat):Int)<=11:=(XO _ 11).2 (by rw[aI];omega);omega
def Xdq(r s:Rat)(h:s.num≠0):JU (r/s)<=JU r+JU s:=by
 rw[ar];exact ax (Yt _ _) (Nat.add_le_add_left (Nn h) _)
theorem Xdu{m z:Nat}(hm:m<=1000)(ha:JU a<=z):∀x∈grL a m,JU x<=z+24:=λx hx=>by
 obtain⟨k,hk,rfl⟩:=au hx;rw[Xbj]at hk;rw[<-JW (by rw[Xbj];exact hk),Xd4 hk];have h1:=Xam (k:=k+1) O;have h2:=Xam hm;have h3:=Xdq (a*(((k+1:Nat):Int):Rat)) (((m:Nat):Int):Rat) (by show((m:Nat):Int)≠0;omega);have h4:=Yt a (((k+1:Nat):Int):Rat);omega
theorem Xdn{n:Int}(hF:Fits F w)(hGl:JE F)(hs:s.length<=1000000):QV prog 24 [tx s,.int .i64 n] w F (λ(c:Sr)=>.tuple #[c.v,.int .i64 (nuR (grE s n) (grL (Qo s) n.toNat)).1]) (λc F=>NxR F c (nuR (grE s n) (grL (Qo s) n.toNat)).2):=by
 refine QV.intro (G:=λF=>JE F) func24 rfl wy rfl rfl hF (λF' hF'=>hGl.le hF')<|QI7<|QH1 rfl<|wQ rfl<|QG<|wR rfl<|QI rfl (λ_ _ f k=>Ek f k O) λ_=>wQ rfl<|wR rfl<|QA (QT rfl rfl rfl)<|QE<|QC ?_
 refine QR I (λhc2=>?_) λhc2=>?_
 ·have h13:=bne_iff_ne.1 hc2;have hge0:grE s n=Jk s:=by unfold grE;rw[if_pos h13]
  refine wA 8 I ?_;exact Jd ((⟨none,0,0⟩:Sr)) I (wO I I) (by rw[hge0,cK h13]) λF h9=>by rw[hge0,cK h13];exact NxR.nil F
 have h13:=bne_eq_false_iff_eq.1 hc2;have zs:=Yf h13;refine QJL 5 I<|QI I (λ_ _ f k=>Kj (r:=Qo s) f k.1 (XH h13).1 O) λc16=>Qc Jy λb7=>QU (vs:=[_,_,_,_]) I I I QN I .here .h4 wV<|QHz<|QG ?_
 refine Zc [(1,_),(7,_)] [(27,.bool ((gB (MG (Qo s).num) n)))] wT ?_ ?_
 ·refine QB<|QA (wJ I QN .here)<|QI I (λ_ _ f k=>Ub f k.2) λ_=>wB 2 I ?_
  refine Ql (t:=20) rfl (λhb20=>?_) λhb20=>?_
  ·refine wB 8 I ?_;exact JY ⟨rfl,rfl,(congrArg (λb=>some (av b)) (by unfold gB;rw[hb20];rfl)),trivial⟩ QIM tA
  refine wB 6 I ?_;refine Ql (t:=24) rfl (λhb24=>?_) λhb24=>?_
  ·refine wB 4 I ?_;exact JY ⟨rfl,rfl,(congrArg (λb=>some (av b)) (by unfold gB;rw[hb20,hb24];rfl)),trivial⟩ QIM tA
  refine wB 6 I ?_;exact JY ⟨rfl,rfl,(congrArg (λb=>some (av b)) (by unfold gB;rw[hb20,hb24];rfl)),trivial⟩ QIM tA
 simp only[ai,ah];refine QR I (λhc2=>?_) λhc2=>?_
 ·have hge0:grE s n=3:=by unfold grE;rw[if_neg (by simpa using h13),if_pos hc2]
  refine wA 7 I ?_;exact Jd ((⟨none,0,0⟩:Sr)) I (wO I I) (by rw[hge0,cK wu]) λF h9=>by rw[hge0,cK wu];exact NxR.nil F
 have hge0:grE s n=0:=by unfold grE;rw[if_neg (by simpa using h13),if_neg (by rw[hc2];decide)]
 have hnn:1<=n/\n<=1000:=by unfold gB at hc2;simp only[aH,decide_eq_false_iff_not]at hc2;omega
 obtain⟨m,rfl⟩:∃m:Nat,n=(m:Int):=⟨n.toNat,O⟩;have hzl:=Xdu (m:=m) O zs;have hgl:=Xbj (Qo s) m;refine QJL 4 I<|wQ rfl<|QG<|wR rfl<|QH0 rfl<|QHz<|QW<|JV (ι:=SdJ (grL (Qo s) m)) [(1,_),(7,_),(28,_)] (λi=>[(8,i.v),(29,.int .i64 ((i.i:Nat):Int))]) (λi=>(b7,.cells (Kl c16).toArray 118 (0,0))::i.ob) (λi F=>R8 F i.xs) (λi=>m-i.i) (⟨0,.slice none 0 0,[],[],aY _,.nil,rfl⟩) wU wT QIM (λ_ _ p h=>by cases h) λi=>?_
 simp only[ai,ah];have hi:=i.le;refine wA 6 I ?_;refine QR I (λhc2=>?_) λhc2=>?_
 ·have hlt:i.i<m:=wk<|QJG hc2
  have hz36:=Xam (k:=i.i+1) O;have hzm:=Xam (k:=m) O;have hz37:=Yt (Qo s) (((i.i+1:Nat):Int):Rat);refine QJL 10 I<|JH tE mixed wm<|QK (QD I)<|QK (wJ I QN .here)<|QK (QD I)<|QK (Qw I I O) ?_
  rw[show(((i.i:Nat):Int)+1)=((i.i+1:Nat):Int)from rfl];refine QP I (λ_ _ f k=>TO (n:=((i.i+1:Nat):Int)) f O O) (λc36=>QP I (λ_ _ f k=>W5 (x:=c16) (y:=c36) (r:=Qo s) (s:=(((i.i+1:Nat):Int):Rat)) f k.1.1.2 k.2 O O) λc37=>QK (QD I)<|QP I (λ_ _ f k=>TO (n:=(m:Int)) f O O) λc39=>QP I (λ_ _ f k=>yz (x:=c37) (y:=c39) (r:=Qo s*(((i.i+1:Nat):Int):Rat)) (s:=((m:Int):Rat)) f k.1.2 k.2 (by show((m:Nat):Int)≠0;omega) O O) λc40=>?_);refine Qp I (Q4 XZ) QN Jy I I (λb41=>?_) (λw h=>h.imp tE λF h=>h.1.1.1.1);refine Y4 (bA (l₁:=[_])) ?_;refine KM (n:=i.i) (k:=1) (sz:=4) (news:=(Kl c40)) I I XZ QN Jy I QB0 i.hr (Src.row (off:=0) tB (λj q hq=>by rw[bS];rw[List.getElem?_toArray];exact hq) rfl) O O (pf _) QIM (λ_ h=>h.1.1.1.1.1) (λv42 ob42 hr42=>?_);refine Y4 (bA (l₂:=[_]))<|QK (QF I)<|Q7<|Qk<|QC<|QB<|QA (Qw I I O)<|wB 2 I ?_
  exact Qm (i.next O c40 _ hr42 (Xd4 hlt).symm) (by show m-(i.i+1)<m-i.i;omega) wW QIM λF h9=>⟨⟨⟨h9.1.1.1.1.1.1.1.1,trivial⟩,h9.1.1.1.1.1.1.2⟩,h9.1.1.1.1.1.2.snoc h9.1.2⟩
 have hge:i.i=(grL (Qo s) m).length:=by have:=QJH hc2;have:=i.le;omega
 have hzx:∀p∈i.xs,JU p.2<=100000000:=λp hp=>ax (hzl _ (by have e:=i.hx;rw[hge,aT]at e;rw[<-e];exact List.mem_map_of_mem hp)) wu;have hxe:i.xs.map (·.2)=(grL (Qo s) m):=by have e:=i.hx;rw[hge,aT]at e;exact e
 have hxl2:=i.len;have hany:=uN hxe;refine Qz ?_
 repeat first|refine QZ ?_|refine QQ wy ?_
 refine Qa<|QJM 4 I ?_
 have hxl:=i.len;obtain⟨⟨rq,rn,rc⟩,hv2,hrn,hrc,hfix⟩:=Q9.fix (w0:=w) (F0:=F) (bs1:=[_]) (G:=_) i.hr;dsimp only at hrn hrc hfix;subst hrn;refine YS hfix ?_;rw[hv2];dsimp only[Sr.v];refine QH0 I<|QI I (λw F g k=>kP (f:=87) (c1:=[]) (c2:=[]) (p:=λe:Fr×Rat=>Jt e.2) (G0:=λF=>JE F/\R8 F i.xs) g (λF F' hle h=>⟨h.1.le hle,h.2.le hle⟩) ⟨k.1.1.1.1,k.1.2⟩ k.2 hxl2 O λe he w F g hG=>EU g hG.1 (hG.2 e he) (hzx e he)) λ_=>QE<|QC ?_
 refine QR I (λhc2=>?_) λhc2=>?_
 ·have hL:(grL (Qo s) m).any Jt=true:=by rw[<-hany];exact hc2
  refine wA 7 I ?_;exact Jd ((⟨none,0,0⟩:Sr)) I (wO I I) (by rw[hge0,aD,CD,if_pos hL]) λF h9=>by rw[hge0,aD,CD,if_pos hL,if_pos hL];exact NxR.nil F
 have hL:(grL (Qo s) m).any Jt=false:=by rw[<-hany];exact hc2
 refine QJL 5 I<|QI I (λ_ _ f k=>Lm f k.1.1.1.1.1 k.1.2 k.1.1.2 hxl2 O hzx) λc47=>QJK 5 I ?_
 exact Jd (c47) rfl (wO I I) (by rw[hge0,aD,CD,hL]<;>rfl) λF h9=>by rw[hge0,aD,CD,hL];show NxR F c47 (grL (Qo s) m);exact⟨by rw[<-QAr hxe];exact h9.2.1,by rw[h9.2.2.1];exact hge,h9.2.2.2⟩
structure ATk where
 fr:List UInt8
 te:List UInt8
 bx:Sr
 bl:List (List UInt8×List UInt8)
 wh:Sr
 wl:List (List UInt8×List UInt8)
 o:Int
 b:Int
section
open Go.RowKit Go.ChangeShapes Go.WideShapes Ig
section
variable{H:Type}{enc:TypeId×Value->H}{w:World}
set_option maxRecDepth 100000 in
theorem Xdk{t:TypeId}(ht:prog.underlying t=some (.int .u8)){b:Nat}{v:Value}{d:DataW H}{p:List MemPlace}(hv:Value.okWide prog w .any b t v)(h:DataW.Trod enc prog w 0 (λ_=>true) true t v d p):∃k:Nat,v = .int .u8 (k:Int)/\k<256:=by
 obtain⟨z,rfl,_,_,hw⟩:=open_int ht hv h;have hn:0<=z/\z<=255:=by simpa[Lit.wf,IntKind.min,IntKind.max,IntKind.signed,IntKind.bits]using hw
 exact⟨z.toNat,by rw[Int.toNat_of_nonneg hn.1],O⟩
end
end
def eqI8(a:Int):Cb .eql (.int .i64 a) (.int .i64 a)=some (.bool true):=by simp[Cb]
def atT:List WW->Rat->Option (List (List UInt8×List UInt8))
 |[],_=>none
 |b::tb,t=>if Yb (Qo b.e) t=0 then some b.ll else if Yb (Qo b.e) t>0 then some b.wl else atT tb t
def atE(y:X5)(tb:List WW)(t:List UInt8):Int:=Qu [Qu [y.e,Dz y.nm.n tb],Jk t]
def atV(y:X5)(tb:List WW)(t:Rat):Option (List (List UInt8×List UInt8)):=if MG t.num<0 then none else if MG t.num=0 then some y.sl else atT tb t
def atR(e:Int)(o:Option (List (List UInt8×List UInt8))):List (List UInt8×List UInt8)×Int:=if e≠0 then([],e)else match o with
 |none=>([],3)
 |some l=>(l,0)
def Xdp{e:Int}{o:Option (List (List UInt8×List UInt8))}(h:e≠0):atR e o=([],e):=by unfold atR;rw[if_pos h]
def Xe3(l:List (List UInt8×List UInt8)):atR 0 (some l)=(l,0):=rfl
structure AtI(tb:List WW)(t:Rat) where
 i:Nat
 le:i<=tb.length
 h:atT tb t=atT (tb.drop i) t
def Xcb{tb:List WW}{t:Rat}(h:i<tb.length):atT (tb.drop i) t=if Yb (Qo (el tb i).e) t=0 then some (el tb i).ll else if Yb (Qo (el tb i).e) t>0 then some (el tb i).wl else atT (tb.drop (i+1)) t:=by rw[Bo h];rfl
def KO.nil(F:Gs)(c:Nat):KO F ⟨none,0,c⟩ []:=⟨Qx.nil F none 2,rfl⟩
theorem Xda(l:List (List UInt8×List UInt8)):∀v∈l.flatMap Pc,v.oneCell'=true:=λv hv=>by
 obtain⟨s,_,h⟩:=List.mem_flatMap.1 hv;simp only[Pc,bN,bH,or_false]at h;rcases h with rfl | rfl<;>rfl
theorem Xav{r:Sr}{l:List (List UInt8×List UInt8)}(hF:Fits F w)(hx:KO F r l)(hn:r.n<=1000000):QV prog 94 [r.v] w F (λ(c:Sr)=>c.v) (λc F=>KO F c l):=by
 obtain⟨q,n,c⟩:=r;dsimp only[Sr.v];have hl:=hx.len;dsimp only at hl hn;refine QV.intro (G:=λF=>KO F ⟨q,n,c⟩ l) func94 rfl wy rfl rfl hF (λF' hF'=>hx.le hF')<|QI7<|wQ rfl<|QG<|wR rfl<|QA (dF rfl rfl J9)<|QE<|QC ?_
 refine QR I (λhc2=>?_) λhc2=>?_
 ·obtain rfl:q=none:=by
   cases q with
   |none=>rfl
   |some a=>cases hc2
  have h0:n=0:=hx.row.Xe2 I;obtain rfl:l=[]:=List.length_eq_zero_iff.1 O;refine wA 6 I ?_;exact QS ((⟨none,0,0⟩:Sr)) I (wN I) (rfl) λF hR=>KO.nil F 0
 obtain⟨a,rfl⟩:∃a,q=some a:=by
  cases q with
  |none=>cases hc2
  |some a=>exact⟨a,rfl⟩
 refine QJL 4 I<|Ev (Q4 J9) Jq λb5=>QH0 I<|KB (bs1:=[]) (ob:=[(b5,.cells ([]++[]:List Value).toArray 38 (0,0))]) (n:=0) (k:=n) (sz:=2) (news:=l.flatMap Pc) rfl rfl J9 Jq Xe I QCi (.some rfl rfl (ae _) wu) (Src.QDt (λF hR=>hR.row) (by rw[MW (f:=Pc) KZ l,hl])) O O (Xda l) λv7 ob7 hr7=>?_
 rw[bS,ah]at hr7;obtain⟨⟨rq,rn,rc⟩,hv2,hrn,hrc,hfix⟩:=Q9.fix (w0:=w) (F0:=F) (bs1:=[]) (G:=_) hr7;dsimp only at hrn hrc hfix;subst hrn;refine YS hfix ?_;rw[hv2];dsimp only[Sr.v];refine wQ I<|QY ?_
 exact QS ((⟨rq,rn,rc⟩:Sr)) I (wN I) (rfl) λF ⟨hR,hrow⟩=>⟨hrow,hl⟩
theorem Xe5{r:Sr}{tb:List WW}{t:List UInt8}(hF:Fits F w)(hGl:JE F)(hy:ZH F y)(ht:Ww y)(hx:IS F r tb)(hc:QB5 r tb)(htl:t.length<=1000000):QV prog 27 [y.v,r.v,tx t] w F (λ(c:Sr)=>.tuple #[c.v,.int .i64 (atR (atE y tb t) (atV y tb (Qo t))).2]) (λc F=>KO F c (atR (atE y tb t) (atV y tb (Qo t))).1):=by
 have hxr:=hx.len;have hcn:=hc.n;refine QV.intro (G:=λF=>JE F/\ZH F y/\IS F r tb) func27 rfl wy rfl rfl hF (λF' hF'=>⟨hGl.le hF',hy.le hF',hx.le hF'⟩)<|QI7<|Qs rfl (vs:=[_,_,_]) rfl λb3=>QH1 rfl<|wQ rfl<|QG<|QI7<|QA (wI I J8 .here)<|QH0 rfl<|QI rfl (λ_ _ f k=>Xca (y:=y) f k.1 k.2.1 ht k.2.2 hc) λ_=>QH0 rfl<|QI rfl (λ_ _ f k=>Ek f k.1.1 htl) λ_=>Qb rfl (Q4 ZJ) YV Hz rfl rfl λb18=>QI rfl (λ_ _ f k=>YY f (Qx.of (cs:=List.map Jr [_,_]) k.2 rfl) wu) λ_=>wQ rfl<|wR rfl<|QA (QT rfl rfl rfl) ?_
 refine QE<|QC ?_
 refine QR I (λhc2=>?_) λhc2=>?_
 ·have h21:atE y tb t≠0:=bne_iff_ne.1 hc2;refine wA 8 I ?_;exact Jd ((⟨none,0,0⟩:Sr)) I (wO I I) (by rw[Xdp h21]<;>rfl) λF h9=>by rw[Xdp h21];exact KO.nil F 0
 have h21:atE y tb t=0:=bne_eq_false_iff_eq.1 hc2;have hct:Jk t=0:=JA h21 _ (.tail _ (.head _));have hfz:=JA h21 (Qu [y.e,Dz y.nm.n tb]) (.head _);have hto:=gO (JA hfz (Dz y.nm.n tb) (.tail _ (.head _)));have hct2:∀b∈tb,b.e.length<=1000000/\GZ b.w b.wl/\GZ b.l b.ll:=hc.t.resolve_left (wk hto.len);refine QJL 5 I<|QI I (λ_ _ f k=>Kj f k.1.1.1.1.1 (XH hct).1 O) λc24=>Qc Jy λb9=>QU (vs:=[_,_,_,_]) I I I QN I .here .h4 wV<|QJK 5 I<|QA (wJ I QN .here)<|QI I (λ_ _ f k=>Ub f k.2) λ_=>QJK 3 I ?_
 refine QR I (λhc2=>?_) λhc2=>?_
 ·have hO:(atV y tb (Qo t))=none:=by unfold atV;rw[if_pos (QJG hc2)]
  refine wA 7 I ?_;exact Jd ((⟨none,0,0⟩:Sr)) I (wO I I) (by rw[h21,hO]<;>rfl) λF h9=>by rw[h21,hO];exact KO.nil F 0
 have h27:¬MG (Qo t).num<0:=QJH hc2;refine QJL 5 I<|QA (wJ I QN .here)<|QI I (λ_ _ f k=>Ub f k.1.2) λ_=>QJK 3 I ?_
 refine QR I (λhc2=>?_) λhc2=>?_
 ·have hO:(atV y tb (Qo t))=some y.sl:=by unfold atV;rw[if_neg h27,if_pos (eq_of_beq hc2)]
  refine QI7<|QA (QH I YL JZ)<|QA (Qf I JZ .u1 (.skip (.skip .h1)))<|QI I (λ_ _ f k=>Xav f ⟨k.1.1.1.1.1.1.1.2.1.st,k.1.1.1.1.1.1.1.2.1.P3⟩ ht.sn) λc33=>QJK 5 I ?_
  exact Jd (c33) rfl (wO I I) (by rw[h21,hO]<;>rfl) λF h9=>by rw[h21,hO];exact h9.2
 have hO:(atV y tb (Qo t))=atT tb (Qo t):=by unfold atV;rw[if_neg h27,if_neg (by simpa using hc2)]
 refine QJL 6 I<|QA (Qh I EA)<|QJK 4 I<|XK (ι:=AtI tb (Qo t)) [(9,_),(34,_),(35,_)] (λi=>[(36,.int .i64 ((i.i:Nat):Int))]) (λi=>tb.length-i.i) (⟨0,aY _,rfl⟩) wU wS λi=>?_
 simp only[ai,ah];have hi:=i.le;refine wA 6 I ?_;refine QR I (λhc2=>?_) λhc2=>?_
 ·have hlt:i.i<tb.length:=wk<|QJG hc2
  have hem:=Qv hlt;refine QJL 6 I<|QA (Q3 (n:=r.n) i.i (λF h9=>h9.1.1.1.1.1.1.1.2.2.row) rfl rfl EA YO O)<|QA (JK (n:=r.n) (vs:=[tx (el tb i.i).e,.slice (el tb i.i).w.q (el tb i.i).w.n (el tb i.i).w.cap,.slice (el tb i.i).l.q (el tb i.i).l.n (el tb i.i).l.cap]) ((i.i)*3) (λF h9=>h9.1.1.1.1.1.1.1.2.2.row) O rfl YO I λj v hv=>JQ (f:=uR) (l:=tb) Cf O hv)<|Qc Du λb11=>QU (vs:=[_,_,_]) I I I YO I .here .h3 wU<|QHz<|QG<|JH QIM mixed wm<|QK (QH I Rj JP)<|QK (Qf I JP .here .h1)<|QP I (λ_ _ f k=>Kj f k.1.1.1.1.1.1.1.1 (XH (hto.e _ hlt)).1 (wk<|(hct2 _ hem).1)) λc42=>QK (wJ I QN .u1)<|QP I (λ_ _ f k=>Gv f k.2 k.1.1.1.2 (wk<|Yf (hto.e _ hlt)) (wk<|Yf hct)) λ_=>QK (QF I)<|Q7<|QJM 4 I ?_
  refine QJK 5 I ?_;refine QR I (λhc2=>?_) λhc2=>?_
  ·have h45:Yb (Qo (el tb i.i).e) (Qo t)=0:=eq_of_beq hc2;have hA:(atV y tb (Qo t))=some (el tb i.i).ll:=by rw[hO,i.h,Xcb hlt,if_pos h45]
   refine QI7<|QA (QH I Uf JZ)<|QA (Qf I JZ .here (.skip (.skip .h1)))<|QI I (λ_ _ f k=>Xav f (k.1.1.1.1.1.1.1.1.1.2.2.bx _ hem).2 (hct2 _ hem).2.2.n) λc50=>QJK 5 I ?_
   repeat first|refine Q6 ?_|refine Qy ?_
   exact Jd (c50) rfl (wO I I) (by rw[h21,hA]<;>rfl) λF h9=>by rw[h21,hA];exact h9.2
  have h45:¬Yb (Qo (el tb i.i).e) (Qo t)=0:=by simpa using hc2
  refine wA 7 I ?_;refine QR I (λhc2=>?_) λhc2=>?_
  ·have h51:Yb (Qo (el tb i.i).e) (Qo t)>0:=QJG hc2;have hA:(atV y tb (Qo t))=some (el tb i.i).wl:=by rw[hO,i.h,Xcb hlt,if_neg h45,if_pos h51]
   refine QI7<|QA (QH I L7 JZ)<|QA (Qf I JZ .here (.skip .h1))<|QI I (λ_ _ f k=>Xav f (k.1.1.1.1.1.1.1.1.1.2.2.bx _ hem).1 (hct2 _ hem).2.1.n) λc56=>QJK 5 I ?_
   repeat first|refine Q6 ?_|refine Qy ?_
   exact Jd (c56) rfl (wO I I) (by rw[h21,hA]<;>rfl) λF h9=>by rw[h21,hA];exact h9.2
  have h51:¬Yb (Qo (el tb i.i).e) (Qo t)>0:=QJH hc2;refine QO<|Qk<|Qk<|QC<|QB<|QA (Qw I I O)<|wB 2 I ?_
  exact Qm (⟨i.i+1,hlt,by rw[i.h,Xcb hlt,if_neg h45,if_neg h51]⟩) (by show tb.length-(i.i+1)<tb.length-i.i;omega) wV ((.cons _ QIM)) λF h=>h.1.1
 have hge:tb.length<=i.i:=wk<|QJH hc2
 refine Qz ?_
 repeat first|refine QZ ?_|refine QQ wy ?_
 refine Qa<|QJM 8 I ?_
 exact Jd ((⟨none,0,0⟩:Sr)) I (wO I I) (by rw[h21,hO,i.h,bm hge]<;>rfl) λF h9=>by rw[h21,hO,i.h,bm hge];exact KO.nil F 0
def Xcu{t:List UInt8}(h:Jk t=0):t=[48]↔MG (Qo t).num=0:=by
 constructor
 ·intro e;subst e;decide +kernel
 intro e;have h1:Qo t=0:=Rat.num_eq_zero.1 (QAo _ e);rw[(XH h).1,h1];decide +kernel
structure QxR(F:Gs)(r:Sr)(vs:List J3):Prop where
 row:Qx F r.q r.n 2 (vs.flatMap Oz)
 len:vs.length=r.n
def QxR.le{F':Gs}{r:Sr}{vs:List J3}(h:QxR F r vs)(k:Gs.le F F'):QxR F' r vs:=⟨h.row.le k,h.len⟩
def QDb(vs:List J3):(He vs).flatMap Pc=vs.flatMap Oz:=by unfold He;rw[List.flatMap_map];rfl
def QxR.U4{r:Sr}{vs:List J3}(h:QxR F r vs):KO F r (He vs):=⟨by rw[QDb];exact h.row,by rw[Mm];exact h.len⟩
def DG.drop{l:List Int}(hd:DG B9 l)(k:Nat):DG B9 (l.drop k):=λx hx=>hd x (List.mem_of_mem_drop hx)
structure SmS(Z T D m:Nat)(rs:List (List Tm)):Prop where
 Dt:∀p∈rs,∀u∈p,JU u.1<=Z/\Z6 u.2 (m+1)<=D/\u.2.length=m+1/\∀k∈u.2,0<=k/\k<=12
 len:∀p∈rs,p.length<=T
 hn:rs.length=m
def Rw{Q B:Nat}{r:Rat}(h0:0<Q)(hd:r.den ∣ Q)(hs:JU r<=B):Cl Q 1 B r:=Cl.of r h0 hd (ax (Nat.le_max_left _ _) hs)
theorem EY{d z:Nat}(h:NA s d=true)(hz:10^d<=2^z):JU (Qo s)<=z:=by
 simp only[NA,aU,decide_eq_true_eq,beq_iff_eq]at h;obtain⟨_,hc,h1,h2⟩:=h;have hs:=(XH hc).1;generalize Qo s=x at hs;have key:∀n:Nat,(bO n).length<=d->n<2^z:=λn hn=>by
  have a:=HK (J0 n);rw[Xd]at a;exact bF (bF a (Nat.pow_le_pow_right wu hn)) hz
 have e:numOf (Js x)=Zi x.num:=by
  unfold numOf;by_cases h:x.den=1
  ·obtain⟨h1,h2⟩:=C2 h;rw[h2,aT,h1]
  exact(NU h).2.2.1
 rw[hs,e,QEw]at h1;have hn:sz x.num<=z:=(XO _ _).2 (key _ O);have hd:sz (x.den:Int)<=z:=by
  refine(XO _ _).2 ?_;rw[aI];by_cases g:x.den=1
  ·have:(1:Nat)<=10^d:=Nat.one_le_pow _ _ wu;have hx:d≠0:=by
    intro h0;have:=Vr x.num.natAbs;have h3:(bO x.num.natAbs).length≠0:=λq=>this (List.length_eq_zero_iff.1 q);omega
   have:1<10^d:=Nat.one_lt_pow hx wu;omega
  refine key _ ?_;rw[hs]at h2;unfold cw at h2;rw[if_neg λe=>g ((xk x).1 e),(NU g).2.2.2]at h2;omega
 exact Nat.max_le.2 ⟨hn,hd⟩
structure SmY(y:X5)(m:Nat):Prop where
 s:SmS 20 4 3 m y.rs
 rl:y.rl.length=m
 pl:∀e∈y.rl,e.2.length=e.1.n/\e.1.n<=1000/\∀t∈e.2,Jk t.f=0
structure ShB(m:Nat)(x:List J3):Prop where
 len:x.length=m
 sz:∀a∈x,XN a 160
 ord:E2 x
section
variable{y:X5}{m n:Nat}{fr t2:Rat}{x on:List J3}(h:SmY y m)(hm:m<=2)(hx:ShB m x)(ho:ShB m on)(hf:JU fr<=56)(ht:JU t2<=56)(hlt:fr<=t2)(hn:n<=3)
include h hm hx ho hf ht hlt hn
omit h hm hlt hn in
omit hlt hn in
omit hm hlt in
omit h hm hx ho hf ht hlt in
end
def xM{c:Sr}{v:List J3}{F:Gs}(h:v.length=c.n)(hn:c.n<=1000000)(hz:∀a∈v,XN a 100000):GZ c (He v):=⟨hn,λs hs=>by
 obtain⟨a,ha,rfl⟩:=List.mem_map.1 hs;have h1:=hz a ha;have h2:=UQ a.1;have h3:=UQ a.2;have:=h1.1;have:=h1.2;exact⟨by show(Js a.1).length<=_;omega,by show(Js a.2).length<=_;omega⟩⟩
def dX(a:Int):Cb .neq (.int .i64 a) (.int .i64 a)=some (.bool false):=by simp[Cb]
structure QHw(n:Nat) where
 i:Nat
 le:i<=n
section
variable{F G E al:Nat}(hF:0<F)(hG:0<G)(hE:0<E)
include hG hE
include hF
omit hF hG hE in
omit hF hG hE in
variable{be:Nat}
end
structure TyD(F I E B al T n:Nat)(rs:List (List Tm))(t:J3)(vb:List J3):Prop where
 f0:0<F
 i0:0<I
 e0:0<E
 inv:∀k,k<n->k+1 ∣ I
 Dt:∀i,i<rs.length->∀u∈el rs i,Cl F 1 B u.1/\Z6 u.2 (vb.length+1)<=al+1
 len:∀i,i<rs.length->(el rs i).length<=T
 tm:YQ E 1 B t
 box:∀x∈vb,YQ E 1 B x
 hn:rs.length=vb.length
section
variable{F I E B al T n:Nat}{rs:List (List Tm)}{t:J3}{vb:List J3}(h:TyD F I E B al T n rs t vb)
include h
omit h in
omit h in
theorem xY(a b:Nat):sz ((a*b:Nat):Int)<=sz ((a:Nat):Int)+sz ((b:Nat):Int):=by rw[bM];exact K3 _ _
end
theorem IH{v:List J3}(hl:v.length=n)(hz:∀a∈v,XN a 1800)(ho:E2 v):YN n (He v)=0:=by
 unfold YN;rw[if_neg (by rw[Mm];omega)];have key:∀u:List J3,(∀a∈u,XN a 1800/\a.1<=a.2)->Qu ((He u).map λs=>XX s.1 s.2)=0:=by
  intro u
  induction u with
  |nil=>intro _;rfl
  |cons a u ih =>
   intro hu;have h1:=hu a (.head _);have h2:XX (Js a.1) (Js a.2)=0:=Un (SI h1.1.1 (ae _)) (SI h1.1.2 (ae _)) h1.2;show Qu (XX (Js a.1) (Js a.2)::(He u).map λs=>XX s.1 s.2)=0;rw[h2,Zm];exact ih λx hx=>hu x (.tail _ hx)
 refine key v λa ha=>⟨hz a ha,?_⟩;obtain⟨i,hi,rfl⟩:=au ha;rw[<-JW hi];exact ho i hi
def QF7{v:List J3}(h:∀a∈v,XN a 1800):Jv v=false:=j0 λa ha=>by rw[SI (h a ha).1 (ae _),SI (h a ha).2 (ae _)];rfl
section
variable{m:Nat}{rs:List (List Tm)}{fr t2:Rat}{x on:List J3}(h:SmS 14 4 2 m rs)(hm:m<=2)(hxl:x.length=m)(hol:on.length=m)(hx:∀a∈x,XN a 14)(ho:∀a∈on,XN a 20)(hf:JU fr<=10)(ht:JU t2<=10)
include h hm hxl hx hf ht
omit h in
omit h hm hxl hx in
omit h hm hxl hf ht in
include hol ho
omit hm hxl hx h in
end
structure NsT(y:X5)(x:ATk):Prop where
 few:jl y 2 2 4=true
 n0:y.rt.n≠0
 bn:x.bx.n=y.rt.n
 wn:x.wh.n=y.rt.n
 b:x.bl.all (Uz ((4:Nat):Int))=true
 w:x.wl.all (Uz ((6:Nat):Int))=true
 f:NA x.fr ((3:Nat):Int)=true
 t:NA x.te ((3:Nat):Int)=true
 lt:Qo x.fr<Qo x.te
def CS{d:Nat}(h:NA s (d:Int)=true):s.length<=2*d+2:=by
 unfold NA at h;rw[aU,decide_eq_true_eq]at h;have:=h.1;omega
def Xdm{b:Rat}(h:a<b):Vb a b=0:=by
 unfold Vb;rw[if_neg (by rw[decide_eq_true_eq,Hr];exact Rat.not_le.2 h)]
theorem Xb4{r:Sr}{v:List J3}(h:v.length=r.n)(hn:r.n<=1000000)(hz:∀a∈v,XN a 1800):GZ r (He v):=xM (F:=λ_=>none) h hn λa ha=>(hz a ha).mono wu
structure BxG(m:Nat)(v:List J3):Prop where
 len:v.length=m
 ord:E2 v
 sz:∀a∈v,XN a 1800
structure TbG(m:Nat)(es:List Rat)(T:List OQ):Prop where
 len:T.length=es.length
 e:∀i,i<es.length->(el T i).1=el es i
 w:∀i,i<es.length->BxG m (el T i).2.1
 l:∀i,i<es.length->BxG m (el T i).2.2
def Xag(es:List Rat)(i:Nat):Rat:=if i=0 then((0:Int):Rat)else el es (i-1)
structure EsG(es:List Rat):Prop where
 asc:∀i,i<es.length->Xag es i<el es i
 sz:∀i,i<es.length->JU (el es i)<=1800
 le:es.length<=1000
theorem EsG.lt{es:List Rat}(h:EsG es){j:Nat}:∀ {i},j<i->i<es.length->el es j<el es i:=by
 intro i
 induction i with
 |zero=>intro h;cases h
 |succ i ih =>
  intro h1 h2;have h3:=h.asc (i+1) h2;have e:Xag es (i+1)=el es i:=by unfold Xag;rw[if_neg O];rfl
  rw[e]at h3;rcases Nat.lt_or_ge j i with g | g
  ·have:=ih g O;grind
  rw[show j=i by omega];exact h3
section
variable{F:Gs}{c:Sr×List WW}{T:List OQ}{es:List Rat}{m:Nat}(hX:IQ F c T)(hE:EsG es)(hT:TbG m es T)
include hX hT
theorem Xan:c.2.length=es.length:=by
 have:=congrArg List.length hX.d;unfold Tp at this;rw[ay,ay,hT.len]at this;exact this
theorem Xa7(h:i<es.length):(el c.2 i).e=Js (el es i)/\(el c.2 i).wl=He (el T i).2.1/\(el c.2 i).ll=He (el T i).2.2:=by
 have hn:=Xan hX hT;have hl:=hT.len;have h1:=congrArg (λl=>el l i) hX.d;unfold Tp at h1;rw[DQ _ O,DQ _ O]at h1;have h2:((el c.2 i).e,(el c.2 i).wl,(el c.2 i).ll)=(Js (el T i).1,He (el T i).2.1,He (el T i).2.2):=h1;rw[hT.e i h]at h2;simp only[Prod.mk.injEq]at h2;exact h2
include hE
theorem Xd8:Dz m c.2=0:=by
 have hn:=Xan hX hT;have hle:=hE.le;unfold Dz;rw[if_neg O];have key:∀l:List Nat,(∀i∈l,i<es.length)->Qu (l.map (vV m c.2))=0:=by
  intro l
  induction l with
  |nil=>intro _;rfl
  |cons i l ih =>
   intro hl;have hi:=hl i (.head _);have h1:=Xa7 hX hT hi;have hw:=hT.w i hi;have hll:=hT.l i hi;have e1:Hb c.2 i=Xag es i:=by
    unfold Hb Xag;split
    ·rfl
    rw[(Xa7 hX hT (i:=i-1) O).1,jw]
   have e2:vV m c.2 i=0:=by
    unfold vV;rw[h1.2.1,h1.2.2,IH hw.len hw.sz hw.ord,IH hll.len hll.sz hll.ord,h1.1,e1];unfold Na;rw[gD (SI (hE.sz i hi) (ae _)),if_neg wu,jw,Xdm (hE.asc i hi)];rfl
   rw[bc,e2,Zm];exact ih λk hk=>hl k (.tail _ hk)
 exact key _ λi hi=>by rw[<-hn];exact List.mem_range.1 hi
theorem Xdz(hm:m<=1000000):QB5 c.1 c.2:=by
 have hn:=Xan hX hT;have hle:=hE.le;refine⟨by rw[<-hX.a.len];omega,.inr λb hb=>?_⟩;obtain⟨i,hi,rfl⟩:=au hb;rw[<-JW hi]at hb ⊢;have h1:=Xa7 hX hT (i:=i) O;have h2:=hX.a.bx _ hb;have hw:=hT.w i O;have hll:=hT.l i O;have n1:=h2.1.len;have n2:=h2.2.len;rw[h1.2.1,Mm]at n1;rw[h1.2.2,Mm]at n2;rw[h1.1,h1.2.1,h1.2.2];have:=UQ (el es i);have:=hE.sz i O;exact⟨O,Xb4 n1 (by rw[<-n1,hw.len];exact hm) hw.sz,Xb4 n2 (by rw[<-n2,hll.len];exact hm) hll.sz⟩
theorem Xd7{t:Rat}(hi:i<=es.length)(h:∀j,j<i->el es j<t):atT c.2 t=atT (c.2.drop i) t:=by
 have hn:=Xan hX hT
 induction i with
 |zero=>rfl
 |succ i ih =>
  rw[ih O λj hj=>h j O,Xcb O,(Xa7 hX hT O).1,jw];have h1:=(Wp _ _).2 (h i O);rw[if_neg O,if_neg O]
theorem Xdv(hi:i<es.length):atT c.2 (el es i)=some (He (el T i).2.2):=by
 have hn:=Xan hX hT;rw[Xd7 hX hE hT (Nat.le_of_lt hi) λj hj=>hE.lt hj hi,Xcb O,(Xa7 hX hT hi).1,(Xa7 hX hT hi).2.2,jw];have h1:=(Hr (el es i) (el es i)).2 aa;have h2:=(uC (el es i) (el es i)).2 aa;rw[if_pos O]
end
def KO.toQxR{c:Sr}{v:List J3}(h:KO F c (He v)):QxR F c v:=⟨by rw[<-QDb];exact h.row,by have:=h.len;rw[Mm]at this;exact this⟩
theorem Xdw{c:Sr×List WW}{T:List OQ}{es:List Rat}{m:Nat}{t:Rat}{V:List J3}(hF:Fits F w)(hGl:JE F)(hy:ZH F y)(ht:Ww y)(hye:y.e=0)(hnm:y.nm.n=m)(hm:m<=1000000)(hX:IQ F c T)(hE:EsG es)(hT:TbG m es T)(htz:JU t<=1800)(h0:0<t)(hV:atT c.2 t=some (He V)):
  QV prog 27 [y.v,c.1.v,tx (Js t)] w F (λ(c:Sr)=>.tuple #[c.v,.int .i64 0]) (λc F=>QxR F c V):=by
 have h1:=Xe5 (t:=Js t) hF hGl hy ht hX.a (Xdz hX hE hT hm) (wk<|UQ t);have e1:atE y c.2 (Js t)=0:=by
  unfold atE;rw[hye,hnm,Xd8 hX hE hT,gD (SI htz (ae _))];rfl
 have e2:atV y c.2 (Qo (Js t))=some (He V):=by
  have:=(Ot t).2 h0;unfold atV;rw[jw,if_neg O,if_neg O,hV]
 rw[e1,e2,Xe3]at h1;exact h1.imp λc F1 h=>⟨c,rfl,λF2 k=>(KO.toQxR h).le k⟩
theorem Xdj{rs:List (List Tm)}{fr t2:Rat}{x W:List J3}(h:Yq rs fr t2 x b=some W):∀a∈W,Z7 a b=a:=λa ha=>by
 obtain⟨c,rfl⟩:=(Tq 12 _ W h).2 a ha;exact TA c b
def Xcg{a:J3}(h:Sm n a):XN a n:=⟨h.1,h.2⟩
theorem Xaj{h:Rat}(e:A*M*h=2)(k:Nat):A^(k+1)*M^(k+1+1)*h^(k+1)=(A^k*M^(k+1)*h^k)*2:=by
 rw[<-e,aj,aj M,aj h]
 grind
theorem Xde{h:Rat}(e:A*M*h=2):(af (3+1)).foldl (λs k=>s+(A^k*M^(k+1))*h^k) 0+(A^(3+1)*M^(3+1+1))*h^(3+1)=31*M:=by
 have e0:A^0*M^(0+1)*h^0=M:=by rw[ao,ao,aj,ao];grind
 have e1:=Xaj e 0;have e2:=Xaj e 1;have e3:=Xaj e 2;have e4:=Xaj e 3;show((((0+A^0*M^(0+1)*h^0)+A^1*M^(1+1)*h^1)+A^2*M^(2+1)*h^2)+A^3*M^(3+1)*h^3)+A^(3+1)*M^(3+1+1)*h^(3+1)=31*M;rw[e4,e3,e2,e1,e0]
 grind
theorem Xcs(hA:0<A)(ha:a=A\/a = -A)(h9:1<=A*1024)(es:List Rat):∀(fr:Rat) (X:J3) (tb:List OQ),X.1<=X.2 ->
  (∀i,i<es.length->el es i-(if i=0 then fr else el es (i-1))=ag 1 8)->Gf (Xa0 a) 3 16 fr [X] es=some tb->∀p∈tb,(E2 p.2.1/\∀s∈p.2.1,XN s 60)/\E2 p.2.2/\∀s∈p.2.2,XN s 60:=by
 induction es with
 |nil =>
  intro fr X tb _ _ h;obtain rfl:[]=tb:=bh h;intro p hp;cases hp
 |cons e es ih =>
  intro fr X tb hX ho h;rw[Xbp]at h;unfold KP at h;cases hp:Yq (Xa0 a) fr e [X] 16 with
  |none=>rw[hp]at h;simp at h
  |some W =>
   rw[hp]at h;simp only[bD]at h;have he:e-fr=ag 1 8:=ho 0 wz;have h8:(0:Rat)<ag 1 8:=wv;have ht:fr<e:=by grind
   obtain⟨v,hl,hg,_,hW,hgood⟩:=zo (x:=[X]) (λi hi=>by
    obtain rfl:i=0:=by simpa using hi
    exact hX) (ak ht) (Xcj a) hp
   have hWl:W.length=1:=by rw[hW.1,hl];rfl
   have hWe:=Xaa hWl;have hW1:(el W 0).1<=(el W 0).2:=hW.ord 0 O;have hout:=Xdj hp;rw[hWe]at hgood hout;have hAi:=bC A (by grind);have hM:(e-fr)*A*(16*A⁻¹)=2:=by
    rw[he];have:ag 1 8*16=2:=wv
    grind
   have hx1:Wx X.1 X:=⟨aa,hX⟩;have hx2:Wx X.2 X:=⟨hX,aa⟩;have mW:=Xe0 hx1 hW1 ht hgood hA ha hM;have in0:∀x0,Wx x0 X->Wx x0 (el W 0):=λx0 k=>by
    have:=Xcd k (ak ht) hgood (y:=(el W 0).1) (s:=0) ⟨aa,hW1⟩ aa (by grind)
    rwa [aL,aS]at this
   have mX:mgS X (16*A⁻¹):=by
    have i1:=in0 _ hx1;have i2:=in0 _ hx2;unfold mgS at mW ⊢;unfold Wx at i1 i2;exact⟨⟨by grind,by grind⟩,by grind,by grind⟩
   have hAle : -A<=a/\a<=A:=by rcases ha with rfl | rfl<;>constructor<;>grind
   have mL:=Xbu (n:=3) hAle mX mW (ak ht);rw[Xde (by rw[<-hM];grind)]at mL;have hM14:16*A⁻¹<=(((2:Int)^14:Int):Rat):=by
    have hip:0<=A⁻¹:=ak (Rat.inv_pos.2 hA);have m1:=aF h9 hip;have e14:(((2:Int)^14:Int):Rat)=16384:=wv;rw[e14];grind
   have hM19:31*(16*A⁻¹)<=(((2:Int)^19:Int):Rat):=by
    have e14:(((2:Int)^14:Int):Rat)=16384:=wv;have e19:(((2:Int)^19:Int):Rat)=524288:=wv;rw[e14]at hM14;rw[e19];grind
   have zW:XN (el W 0) 60:=by
    have h1:=Xcg (Xd3 (b:=16) (mW.mono hM14));rw[hout _ (.head _)]at h1;exact h1.mono wu
   generalize hL:(Xy (Xa0 a) fr e [X] W 3).map (Z7 · 16)=L at h;have hLl:L.length=1:=by rw[<-hL];simp[Xy]
   have eL:el L 0=Z7 (el (Xy (Xa0 a) fr e [X] [el W 0] 3) 0) 16:=by
    rw[<-hL,DQ _ (by simp[Xy]),<-hWe]
   have zL:XN (el L 0) 60:=by
    have h1:=Xcg (Xd3 (b:=16) (mL.mono hM19));rw[<-eL]at h1;exact h1.mono wu
   have oL:(el L 0).1<=(el L 0).2:=by
    rw[eL];exact RM (gT _ _ _ _ _ _ _ (Qv (by simp[Xy]))) 16
   have hLe:=Xaa hLl;cases ht2:Gf (Xa0 a) 3 16 e L es with
   |none=>rw[ht2]at h;simp at h
   |some r =>
    rw[ht2]at h;obtain rfl:(e,W,L)::r=tb:=by simpa using h
    rw[hLe]at ht2;have hr:=ih e (el L 0) r oL (λi hi=>by
     have:=ho (i+1) (by simpa using hi);cases i with
     |zero=>exact this
     |succ i=>exact this) ht2
    intro p hp;rcases List.mem_cons.1 hp with rfl | hp
    ·refine⟨⟨hW.ord,λs hs=>?_⟩,λi hi=>?_,λs hs=>?_⟩
     ·have hs:s∈W:=hs;rw[hWe]at hs;rw[List.mem_singleton.1 hs];exact zW
     ·have hi:i<L.length:=hi;obtain rfl:i=0:=O;exact oL
     have hs:s∈L:=hs;rw[hLe]at hs;rw[List.mem_singleton.1 hs];exact zL
    exact hr p hp
def E8(n:Nat):List Rat:=(af n).map λk:Nat=>ag ((k:Int)+1) 8
def Xa1(n:Nat):(E8 n).length=n:=by simp[E8]
structure E8T(n:Nat):Prop where
 g:grE (Js (ag (n:Int) 8)) n=0
 l:nuR 0 (grL (Qo (Js (ag (n:Int) 8))) n)=(0,E8 n)
 e:NC ((E8 n).map Js)=0
 m:((E8 n).map Js).map Qo=E8 n
 a:∀i,i<n->Xag (E8 n) i<el (E8 n) i/\JU (el (E8 n) i)<=4/\(8:Nat)%(el (E8 n) i).den=0
 d:∀i,i<n->el (E8 n) i-(if i=0 then((0:Int):Rat)else el (E8 n) (i-1))=ag 1 8
 t:JU (ag (n:Int) 8)<=4
 z:el (E8 n) (n-1)=ag (n:Int) 8
instance(n:Nat):Decidable (∀i,i<n->Xag (E8 n) i<el (E8 n) i/\JU (el (E8 n) i)<=4/\(8:Nat)%(el (E8 n) i).den=0):=inferInstance
def Xat(h:1<=n)(h6:n<=6):E8T n:=by
 obtain rfl | rfl | rfl | rfl | rfl | rfl:n=1\/n=2\/n=3\/n=4\/n=5\/n=6:=O
 all_goals exact⟨wv,wv,wv,wv,wv,wv,wv,wv⟩
theorem E8T.g2(h:E8T n)(h6:n<=6):EsG (E8 n):=⟨λi hi=>(h.a i (by rw[Xa1]at hi;exact hi)).1,λi hi=>ax (h.a i (by rw[Xa1]at hi;exact hi)).2.1 wu,by rw[Xa1];omega⟩
theorem Xcq{Q:Nat}:∀ {es:List Rat} {fr:Rat},(∀e∈es,TmC Q e)->(∀i,i<es.length->(if i=0 then fr else el es (i-1))<=el es i)->QFB Q fr es
 |[],_,_,_=>trivial
 |e::es,fr,h,k=>⟨⟨h e (.head _),k 0 wz⟩,Xcq (λx hx=>h x (.tail _ hx)) λi hi=>by
  have:=k (i+1) (by simpa using hi);cases i with
  |zero=>exact this
  |succ i=>exact this⟩
def Xax(a c:Rat):Nat:=Q0*(a.den*c.den)
def Xbw(a c:Rat):0<Xax a c:=bU Dj (bU a.den_pos c.den_pos)
def Xdg{a c:Rat}(ha:JU a<=10)(hc:JU c<=10):sz ((Xax a c:Nat):Int)<=110:=by
 have h1:=xY Q0 (a.den*c.den);have h2:=xY a.den c.den;have h3:sz ((Q0:Nat):Int)<=90:=wv;have h4:sz ((a.den:Nat):Int)<=10:=ax (aV _ _) ha;have h5:sz ((c.den:Nat):Int)<=10:=ax (aV _ _) hc;unfold Xax;omega
def Xcf(a c:Rat){k:Nat}(h:Q0%k=0):k ∣ Xax a c:=aN (bz h) (bG _ _)
theorem Xds(ha:JU a<=10)(hc:JU c<=10):jo (Xax a c) 10 2 1 1 3 16 (Xa0 a):=by
 have hq:=Xdg ha hc;have h0:=Xbw a c;have hd:a.den ∣ Xax a c:=aN (bG _ _) (aW _ _);have hdy:2^(16:Int).toNat ∣ Xax a c:=Xcf a c wv;have hin:∀k,k<3+1->Cl (Xax a c) 1 0 ((((k+1:Nat):Int):Rat)⁻¹):=λk hk=>yo h0 (Xcf a c ((by decide +kernel:∀k,k<4->Q0%(k+1)=0) k hk));generalize Xax a c=Q at hq h0 hd hdy hin;refine⟨h0,wu,hdy,hin,λi hi=>?_,λi hi u hu=>?_,rfl,wu,wu,?_,?_,?_,?_,?_⟩
 ·obtain rfl:i=0:=by have:i<1:=hi;omega
  exact⟨by show 1<=1;omega,λu hu=>by obtain rfl:=List.mem_singleton.1 hu;exact ha,λu hu=>by obtain rfl:=List.mem_singleton.1 hu;exact(by decide:Z6 [0,2] (1+1)<=2),λu hu=>by obtain rfl:=List.mem_singleton.1 hu;rfl,λu hu=>by obtain rfl:=List.mem_singleton.1 hu;exact(by decide:∀k∈([0,2]:List Int),0<=k/\k<=12)⟩
 ·obtain rfl:i=0:=by have:i<1:=hi;omega
  obtain rfl:=List.mem_singleton.1 hu;exact hd
 all_goals
  (try unfold ql)
  (try unfold vL)
  (try unfold Im jW jx bE)
  omega
structure Xdy(a c:Rat)(n:Nat):Prop where
 ok:uS (Xa0 a) 3 16 ((0:Int):Rat) [(c,c)] (E8 n)
 g:∀tb,Gf (Xa0 a) 3 16 ((0:Int):Rat) [(c,c)] (E8 n)=some tb->tb.any LK=false/\TbG 1 (E8 n) tb/\∀i,i<n->0<1-a*c*el (E8 n) i/\Wx (c/(1-a*c*el (E8 n) i)) (el (el tb i).2.2 0)
theorem Xdx(h:JU a<=10)(h0:a≠0):∃A,0<A/\(a=A\/a = -A)/\1<=A*1024:=by
 have hd:a.den<=1024:=by
  have h1:sz ((a.den:Nat):Int)<=10:=ax (aV _ _) h;rw[XO,aI]at h1;omega
 have hn:a.num≠0:=λe=>h0 (Rat.num_eq_zero.1 e);have e1:a*((a.den:Int):Rat)=((a.num:Int):Rat):=by
  have:=QBM (z:=a.num) (Q:=(a.den:Int)) (wk a.den_pos);rw[Rat.num_divInt_den]at this;exact this
 have hdq:((a.den:Int):Rat)<=1024:=Rat.intCast_le_intCast.2 (show(a.den:Int)<=1024 by omega);have hdp:(0:Rat)<((a.den:Int):Rat):=Rat.intCast_lt_intCast.2 (show(0:Int)<(a.den:Int) from wk a.den_pos);rcases bR (a:=0) (b:=a)with k | k
 ·refine⟨a,by grind,.inl rfl,?_⟩;have h1:(1:Rat)<=((a.num:Int):Rat):=Rat.intCast_le_intCast.2 (show(1:Int)<=a.num from wk<|Rat.num_nonneg.2 k);have h2:=aX hdq k
  grind
 refine⟨-a,by grind,.inr (by grind),?_⟩;have h1:((a.num:Int):Rat)<=((-1:Int):Rat):=Rat.intCast_le_intCast.2 (by
  have h3:¬0<=a.num:=λg=>h0 (Rat.le_antisymm k (Rat.num_nonneg.1 g));omega)
 have e2:((-1:Int):Rat) = -1:=wv;rw[e2]at h1;have h2:=aX hdq (show 0<=-a by grind)
 grind
theorem Xdf(ha:JU a<=10)(hc:JU c<=10)(h0:a≠0)(h1:1<=n)(h6:n<=6):Xdy a c n:=by
 have hE:=Xat h1 h6;have hG:=hE.g2 h6;have hl:=Xa1 n;have q0:=Xbw a c;have hcd:Cl (Xax a c) 1 10 c:=Rw q0 (aN (aW _ _) (aW _ _)) hc;refine⟨Oa (Xds ha hc) _ _ _ ⟨rfl,λi hi=>?_,λx hx=>?_⟩ ⟨.zero 1 _,wu⟩ (Xcq (λe he=>?_) λi hi=>ak (hG.asc i hi)),λtb h=>?_⟩
 ·obtain rfl:i=0:=by have:i<1:=hi;omega
  exact aa
 ·obtain rfl:=List.mem_singleton.1 hx;have:10<=jW 2400 2 1 3+1:=wu;exact⟨hcd.mono q0 (ae _) this,hcd.mono q0 (ae _) this⟩
 ·obtain⟨i,hi,rfl⟩:=au he;rw[<-JW hi];rw[hl]at hi;have h3:=hE.a i hi;exact⟨(Rw q0 (aN (bz h3.2.2) (Xcf a c wv)) h3.2.1).mono q0 (ae _) wu,ax h3.2.1 wu⟩
 obtain⟨A,hA,haA,h9⟩:=Xdx ha h0;have hs:=Xcs hA haA h9 (E8 n) ((0:Int):Rat) (c,c) tb aa (λi hi=>hE.d i (by rw[hl]at hi;exact hi)) h;have z0:((0:Int):Rat)=0:=rfl;have hz:1-a*c*((0:Int):Rat)=1:=by rw[z0,bP];decide +kernel
 obtain⟨t1,t2⟩:=Xcx (a:=a) (c:=c) (E8 n) ((0:Int):Rat) (c,c) tb aa (by rw[hz];decide +kernel) (by
  rw[hz,ar,show(1:Rat)⁻¹=1 by decide +kernel,aM];exact⟨aa,aa⟩) (λi hi=>ak (hG.asc i hi)) h
 have key:∀i,i<n->el tb i∈tb:=λi hi=>Qv (by rw[t1,hl];exact hi);refine⟨?_,⟨t1,λi hi=>(t2 i hi).1,λi hi=>⟨(t2 i hi).2.2.2.1,(hs _ (key i O)).1.1,λs hs2=>((hs _ (key i O)).1.2 s hs2).mono wu⟩,λi hi=>⟨(t2 i hi).2.2.1,(hs _ (key i O)).2.1,λs hs2=>((hs _ (key i O)).2.2 s hs2).mono wu⟩⟩,λi hi=>⟨(t2 i O).2.1,(t2 i O).2.2.2.2⟩⟩;refine jE λj hj=>?_;have h3:=hs _ (Qv hj);unfold LK;rw[QF7 λs hs2=>(h3.1.2 s hs2).mono wu,QF7 λs hs2=>(h3.2.2 s hs2).mono wu];rfl
theorem Xcz{n:Nat}(h:Xdy a c n)(h1:1<=n)(h6:n<=6)(hp:decide (Yb (a*c*ag (n:Int) 8) 1>=0)=true):(tuR 0 (Gf (Xa0 a) 3 16 ((0:Int):Rat) [(c,c)] (E8 n))).1=25:=by
 cases e:Gf (Xa0 a) 3 16 ((0:Int):Rat) [(c,c)] (E8 n)with
 |none=>rfl
 |some tb =>
  have h2:=((h.g tb e).2.2 (n-1) O).1;rw[(Xat h1 h6).z]at h2;have h3:=(uC _ _).1 (QJG hp);exact absurd h3 (Rat.not_le.2 (by grind))
theorem Xbq{o:Option (List OQ)}(h:∀tb,o=some tb->tb.any LK=false):((tuR 0 o).1≠0->(tuR 0 o).1=25)/\((tuR 0 o).1=0->∃tb,o=some tb/\(tuR 0 o).2=tb):=by
 cases o with
 |none=>exact⟨λ_=>rfl,λe=>by cases e⟩
 |some tb =>
  rw[H5,h tb rfl];exact⟨λk=>absurd rfl k,λ_=>⟨tb,rfl,rfl⟩⟩
def Xd2(b34 b36 b38 b39 b42:Nat)(a c:List UInt8):X5:=⟨⟨some ⟨b34,0,none⟩,1,1⟩,[[120]],⟨some ⟨b39,0,none⟩,1,1⟩,[vP b38 [yK a b36 [0,2]]],⟨some ⟨b42,0,none⟩,1,1⟩,[(c,c)]⟩
theorem Xao{b34 b36 b38 b39 b42:Nat}{T1 T2 T3 T4 T5:TypeId}{a c:List UInt8}(h1:F b34=some ([tx [120]].toArray,T1))(h2:F b36=some (([0,2].map Jr).toArray,T2))(h3:F b38=some ((DM (yK a b36 [0,2])).toArray,T3))(h4:F b39=some ([(vP b38 [yK a b36 [0,2]]).1.v].toArray,T4))(h5:F b42=some ([tx c,tx c].toArray,T5))(ha:a.length<=1000000)(hc:c.length<=1000000):PZ F (Xd2 b34 b36 b38 b39 b42 a c) [[120]] [[(a,[0,2])]] [(c,c)] :=
 ⟨⟨Qx.of h1 I,Qx.of h4 I,λe he=>by rw[List.mem_singleton.1 he];exact⟨Qx.of h3 I,λt ht=>by rw[List.mem_singleton.1 ht];exact WG (k:=[0,2]) h2⟩,Qx.of h5 I,rfl,rfl,rfl⟩,⟨(by show 1<=1000000;decide),ae _,λs hs=>by rw[List.mem_singleton.1 hs];decide,(by show 1<=1000000;decide),λe he=>by rw[List.mem_singleton.1 he];exact⟨rfl,λt ht=>by rw[List.mem_singleton.1 ht];exact⟨ha,(by show 2<=1000000;decide)⟩,(by show 1<=1000000;decide)⟩,(by show 1<=1000000;decide),λs2 hs2=>by rw[List.mem_singleton.1 hs2];exact⟨hc,hc⟩⟩,rfl,rfl,rfl⟩
def Xcv(x:Rat):Value:=tx (Js x)
theorem Xdo{n:Nat}(hF:Fits F w)(hGl:JE F)(h1:1<=n)(h6:n<=6):QV prog 24 [tx (Js (ag (n:Int) 8)),.int .i64 (n:Int)] w F (λ(c:Sr)=>.tuple #[c.v,.int .i64 0]) (λc F=>Qx F c.q c.n 1 ((E8 n).map Xcv)/\c.n=n):=by
 have hE:=Xat h1 h6;have h:=Xdn (s:=Js (ag (n:Int) 8)) (n:=(n:Int)) hF hGl (by have:=UQ (ag (n:Int) 8);have:=hE.t;omega);rw[hE.g,aD,hE.l]at h;exact h.imp λc F1 h=>⟨c,rfl,λF2 k=>⟨by have:=h.1.le k;rw[aK]at this;exact this,h.2.1.trans (Xa1 n)⟩⟩
theorem Xct{a c:List UInt8}{ne cap:Nat}{q:Option Addr}{R:Int×List OQ}(hne:ne=n)(hR0:R=tuR 0 (Gf (Xa0 (Qo a)) 3 16 ((0:Int):Rat) [(Qo c,Qo c)] (E8 n)))(hF:Fits F w)(hGl:JE F)(hy:PZ F y [[120]] [[(a,[0,2])]] [(c,c)])(hye:y.e=0)(hR:Qx F q ne 1 ((E8 n).map Xcv))(h1:1<=n)(h6:n<=6)(hT:Xdy (Qo a) (Qo c) n):QV prog 25 [y.v,.slice q ne cap,.int .i64 3,.int .i64 16] w F (λ(d:Sr×List WW)=>.tuple #[d.1.v,.int .i64 R.1]) (λd F=>IQ F d R.2):=by
 subst hR0;have hE:=Xat h1 h6;have e1:y.rs=Xa0 (Qo a):=hy.rs;have e2:y.vs=[(Qo c,Qo c)]:=hy.vs;have h:=QAU (y:=y) (es:=(E8 n).map Js) (o:=3) (b:=16) (ce:=cap) hF hGl hy.r hy.t (by rw[aK];exact hR) (by rw[ay,Xa1,hne]) (.inr λs hs=>by
  obtain⟨e,he,rfl⟩:=List.mem_map.1 hs;obtain⟨i,hi,rfl⟩:=au he;rw[<-JW hi];rw[Xa1]at hi;have:=UQ (el (E8 n) i);have:=(hE.a i hi).2.1;omega) λ_=>by rw[hE.m,e1,e2];exact hT.ok
 have e3:tuE y ((E8 n).map Js) 3 16=0:=by unfold tuE;rw[hye,hE.e];decide
 rw[e3,hE.m,e1,e2]at h;exact h
theorem Xdi{x:Rat}(hF:Fits F w)(hx:JU x<=100000):Qg prog 10 [tx (Js x),tx [49]] w F (.int .i64 (Yb x 1)):=by
 rw[Xcm];exact QAu hF hx wu
theorem Xdb{x:Rat}(hF:Fits F w)(hx:JU x<=100000):Qg prog 12 [tx [49],tx (Js x)] w F (tx (Js (1-x))):=by
 rw[Xcm];exact QDq hF wu hx
theorem Xdh{y:Rat}(hF:Fits F w)(h:Jk s=0)(h0:y.num≠0)(hy:JU y<=100000):Qg prog 30 [tx s,tx (Js y)] w F (tx (Js (Qo s/y))):=by
 have h1:=Xdt (x:=Qo s) (y:=y) hF h0 (wk<|Yf h) hy;rw[<-(XH h).1]at h1;exact h1
theorem Xdr{x:Rat}{B:J3}(hF:Fits F w)(hx:JU x<=100000)(hb:XN B 1800)(h:Wx x B):Qg prog 28 [tx (Js x),spT B] w F (.bool true):=by
 have h1:=QF1 (x:=x) (b:=B) hF hx ⟨wk hb.1,wk hb.2⟩;rw[decide_eq_true ((Hr _ _).2 h.1),decide_eq_true ((Hr _ _).2 h.2)]at h1;exact h1
theorem Xdc{q:Option Addr}{c:Nat}{rs:List Rat}(hF:Fits F w)(hR:Qx F q n 1 (rs.map Xcv))(hn:rs.length=n)(h:∀r∈rs,JU r<=1800)(hb:n<=1000):Qg prog 26 [.slice q n c] w F (.int .i64 0):=by
 have h1:=Xbx (c:=c) (l:=rs.map Js) hF (by rw[aK];exact hR) ⟨by rw[ay];exact hn,λs hs=>by
  obtain⟨r,hr,rfl⟩:=List.mem_map.1 hs;have:=UQ r;have:=h r hr;omega⟩ O
 have key:∀l:List Rat,(∀r∈l,JU r<=1800)->Qu ((l.map Js).map Jk)=0:=by
  intro l
  induction l with
  |nil=>intro _;rfl
  |cons r l ih =>
   intro hl;rw[bc,bc,gD (SI (hl r (.head _)) (ae _)),Zm];exact ih λx hx=>hl x (.tail _ hx)
 rw[key rs h]at h1;exact h1
set_option maxRecDepth 20000 in
theorem Xce{a c:List UInt8}{k:Nat}(hF:Fits F w)(hGl:JE F)(hk:k<256):Qg prog 5 [tx a,tx c,.int .u8 (k:Int)] w F (.bool true):=by
 obtain⟨n,hnk⟩:∃n:Nat,n=1+k%6:=⟨_,rfl⟩;refine QV.intro (G:=λF=>JE F) func5 rfl wy rfl rfl hF (λF' hF'=>hGl.le hF')<|QI7<|wQ rfl<|QG ?_
 refine Zc [(0,_),(1,_),(2,_)] [(28,.bool ((!(NA a 3)||!(NA c 3)||(a==[48]))))] wU ?_ ?_
 ·refine wA 2 I<|QI I (λ_ _ f k=>jz (d:=3) f wu) λ_=>QA (XB I)<|QH0 I ?_
  refine Ql (t:=20) rfl (λhb20=>?_) λhb20=>?_
  ·refine wB 9 I ?_;exact JY ⟨rfl,rfl,rfl,(congrArg (λb=>some (av b)) (by rw[hb20];rfl)),trivial⟩ QIM tA
  refine wB 3 I<|QI I (λ_ _ f k=>jz (d:=3) f wu) λ_=>QM I I<|QA (XB I)<|wB 2 I ?_
  refine Ql (t:=25) rfl (λhb25=>?_) λhb25=>?_
  ·refine wB 4 I ?_;exact JY ⟨rfl,rfl,rfl,(congrArg (λb=>some (av b)) (by rw[hb20,hb25];rfl)),trivial⟩ QIM λ_ h=>h.1.1
  refine wB 3 I<|QI I (λ_ _ f k=>QFN f) λ_=>wB 2 I ?_
  exact JY ⟨rfl,rfl,rfl,(congrArg (λb=>some (av b)) (by rw[hb20,hb25];rfl)),trivial⟩ QIM λ_ h=>h.1.1.1
 simp only[ai,ah];refine QR I (λhc2=>?_) λhc2=>?_
 ·refine QI7<|QI I (λ_ _ f k=>uJ f k) λ_=>wQ I<|QY ?_
  exact QJO I I (rfl) w8
 have hN:NA a 3=true/\NA c 3=true/\(a==[48])=false:=by
  simp only[aH,aP]at hc2;exact⟨hc2.1.1,hc2.1.2,hc2.2⟩
 obtain⟨hfa,hfc,hna⟩:=hN;have hza:JU (Qo a)<=10:=EY (d:=3) hfa wu;have hzc:JU (Qo c)<=10:=EY (d:=3) hfc wu;have hla:a.length<=1000000:=wk (CS (d:=3) hfa);have hlc:c.length<=1000000:=wk (CS (d:=3) hfc);have ha0:(Qo a)≠0:=λe=>by
  have:=(Xcu (EX hfa)).2 (by rw[e];decide +kernel);rw[this]at hna;simp at hna
 have hn1:1<=n:=O;have hn6:n<=6:=O;have hRic:=Xdf hza hzc ha0 hn1 hn6;obtain⟨R,hR0⟩:∃R,R=tuR 0 (Gf (Xa0 (Qo a)) 3 16 ((0:Int):Rat) [((Qo c),(Qo c))] (E8 n)):=⟨_,rfl⟩;have hE8:=Xat hn1 hn6;have hEs:=hE8.g2 hn6;have hEsz:∀r∈E8 n,JU r<=1800:=λr hr=>by
  obtain⟨j,hj,rfl⟩:=au hr;rw[<-JW hj];exact hEs.sz j hj
 have hzp:JU ((Qo a)*(Qo c))<=20:=wk<|Yt (Qo a) (Qo c)
 have hzt:=hE8.t;have hzq:JU (((Qo a)*(Qo c))*ag ((n:Nat):Int) 8)<=24:=wk (Yt ((Qo a)*(Qo c)) (ag ((n:Nat):Int) 8));refine QJL 5 I<|QA (qF (n:=(k:Int)) I QGI k_3 O)<|QA (Hi I I O wu) ?_
 rw[show((k:Int)%6)=((k%6:Nat):Int)from by omega];refine QA (Qw I I O) ?_;rw[show((1:Int)+((k%6:Nat):Int))=((n:Nat):Int)from by omega];refine QJK 5 I<|Qb I (Q4 Ku) Dq z_9 I I λb34=>QH0 I<|Qb I (Q4 JC) JO SP I I λb36=>QA (Q2 I RH Dv (wP I I I))<|Qb I (Q4 Kz) VA Dv I I λb38=>Qb I (Q4 V7) Wh QDS I I λb39=>QH0 I<|QI I (λ_ _ f k=>VU (s:=c) f) λ_=>Qb I (Q4 J9) Jq Xe I I λb42=>QA (Q2 I cA xD (.cons (vs:=[_]) I I I .h1 (.cons (vs:=[_]) I I I (.skip .h1) (.cons (vs:=[_]) I I I (.skip (.skip .h1)) .nil))))<|Qc xD λb8=>QU (vs:=[_,_,_]) I I I J8 I .here .h3 wU<|QJK 5 I<|QA (wI I J8 .here)<|QI I (λw F hF ⟨⟨⟨⟨⟨⟨hGl,hs34⟩,hs36⟩,hs38⟩,hs39⟩,_⟩,hs42⟩=>QGW (y:=(Xd2 b34 b36 b38 b39 b42 a c)) hF hGl (Xao hs34 hs36 hs38 hs39 hs42 hla hlc).r (Xao hs34 hs36 hs38 hs39 hs42 hla hlc).t) λ_=>wB 1 I ?_
 refine QE<|QC ?_
 refine QR I (λhc2=>?_) λhc2=>?_
 ·refine QI7<|QI I (λ_ _ f k=>uJ f k.1.1.1.1.1.1.1) λ_=>wQ I<|QY ?_
  exact QJO I I (rfl) w8
 have hye:(Xd2 b34 b36 b38 b39 b42 a c).e=0:=bne_eq_false_iff_eq.1 hc2;refine QJL 5 I<|QI I (λ_ _ f k=>QCS (num:=((n:Nat):Int)) (den:=8) f O wu wu) λ_=>QH0 I<|QI I (λ_ _ f k=>Xdo f k.1.1.1.1.1.1.1.1 hn1 hn6) λc52=>JM _ (λ_ _ f k=>k.2.2) λn52=>QJK 9 I<|QA (wI I J8 .here)<|QH0 I<|QI I (λw F hF ⟨⟨⟨⟨⟨⟨⟨⟨⟨hGl,hs34⟩,hs36⟩,hs38⟩,hs39⟩,_⟩,hs42⟩,_⟩,_⟩,h52⟩=>Xct (y:=(Xd2 b34 b36 b38 b39 b42 a c)) (a:=a) (c:=c) (n:=n) (q:=c52.q) n52 hR0 hF hGl (Xao hs34 hs36 hs38 hs39 hs42 hla hlc) hye h52.1 hn1 hn6 hRic) λc58=>wB 4 I ?_
 refine QJK 7 I<|QA (QT (v:=.bool false) rfl rfl (dX _))<|wB 4 I<|QA (Qh I KE)<|wB 3 I<|QA (QT (v:=.bool false) rfl rfl (by rw[n52];exact dX _))<|wB 5 I<|QI I (λ_ _ f k=>Xdc (rs:=E8 n) f k.1.2.1 ((Xa1 _).trans n52.symm) (λr hr=>hEsz r hr) O) λ_=>QM I I<|QA (QT (v:=.bool false) rfl rfl (dX _)) ?_
 refine QJK 3 I<|Yv I<|QJL 6 I<|QI I (λ_ _ f k=>Xdd f (EX hfa) (EX hfc)) λ_=>wQ I<|QG ?_
 refine Zc [(1,_),(7,_),(8,_),(9,_),(11,_),(12,_),(13,_)] [(86,.bool (false))] wY ?_ ?_
 ·refine wA 3 I<|QI I (λ_ _ f k=>QCS (num:=((n:Nat):Int)) (den:=8) f O wu wu) λ_=>QI I (λ_ _ f k=>QDv (x:=((Qo a)*(Qo c))) (y:=ag ((n:Nat):Int) 8) f O O) λ_=>QI I (λ_ _ f k=>Xdi (x:=((Qo a)*(Qo c))*ag ((n:Nat):Int) 8) f O) λ_=>wB 2 I ?_
  refine Ql (t:=83) rfl (λhb83=>?_) λhb83=>?_
  ·refine wB 6 I ?_;exact JY ⟨rfl,rfl,rfl,rfl,rfl,rfl,rfl,(congrArg (λb=>some (av b)) (by rw[hR0,Xcz hRic hn1 hn6 hb83];rfl)),trivial⟩ QIM λ_ h=>h.1.1.1
  refine wB 4 I ?_;exact JY wZ QIM λ_ h=>h.1.1.1
 simp only[ai,ah];refine QR I (λhc2=>?_) λhc2=>?_
 ·exact absurd hc2 wz
 refine QJL 9 I ?_;refine QR I (λhc2=>?_) λhc2=>?_
 ·have he25:R.1=25:=by rw[hR0];exact(Xbq λtb h=>(hRic.g tb h).1).1 (by rw[<-hR0];exact bne_iff_ne.1 hc2)
  refine wA 3 I ?_;rw[he25];refine QA (QT (v:=.bool true) rfl rfl (eqI8 _))<|wB 2 I<|QI I (λ_ _ f k=>uJ f k.1.1.1.1.1.1.1.1.1.1.1.1) λ_=>QJK 5 I ?_
  exact QJO I I (rfl) w8
 obtain⟨tb,hRT,e58⟩:=(Xbq λtb h=>(hRic.g tb h).1).2 (by rw[<-hR0];exact bne_eq_false_iff_eq.1 hc2);rw[<-hR0]at e58;obtain⟨_,hTb,hGt⟩:=hRic.g tb hRT;rw[e58];refine QJL 9 I<|XK (ι:=QHw n) [(1,_),(7,_),(8,_),(9,_),(11,_),(13,_)] (λi=>[(14,.int .i64 ((i.i:Nat):Int))]) (λi=>n-i.i) (⟨0,aY _⟩) wX wS λi=>?_
 simp only[ai,ah];have hi:=i.le;refine wA 8 I ?_;refine QR I (λhc2=>?_) λhc2=>?_
 ·have hlt:i.i<n:=wk<|QJG hc2
  have hbl:=hTb.l i.i (by rw[Xa1];exact hlt);obtain⟨hq1,hin⟩:=hGt i.i hlt;have hea:=hE8.a i.i hlt;have hpos:0<(el (E8 n) i.i):=by
   have h1:=(hE8.a 0 O).1;have z0:Xag (E8 n) 0=0:=rfl;rw[z0]at h1;rcases Nat.eq_zero_or_pos i.i with g | g
   ·rw[g];exact h1
   have:=hEs.lt (j:=0) (i:=i.i) g (by rw[Xa1];exact hlt)
   grind
  have hnz:(1-((Qo a)*(Qo c))*(el (E8 n) i.i)).num≠0:=λe=>by rw[Rat.num_eq_zero.1 e]at hq1;exact absurd hq1 Rat.lt_irrefl
  have hz1:JU (((Qo a)*(Qo c))*(el (E8 n) i.i))<=24:=wk<|Yt ((Qo a)*(Qo c)) (el (E8 n) i.i)
  have hz2:JU (1-((Qo a)*(Qo c))*(el (E8 n) i.i))<=30:=by have h9:=Hp 1 (((Qo a)*(Qo c))*(el (E8 n) i.i));have h8:JU 1<=2:=wu;omega
  have hz3:JU ((Qo c)/(1-((Qo a)*(Qo c))*(el (E8 n) i.i)))<=50:=wk (Xd9 (x:=(Qo c)) hnz);refine QJL 5 I<|JH QIM mixed wm<|QK (wI I J8 .here)<|QK (QD I)<|QK (QD I)<|QK (QD I)<|QK (Q3 (n:=c52.n) i.i (λF h9=>h9.1.1.1.2.1) rfl rfl KE JP O)<|QK (Q5 (n:=c52.n) ((i.i)*1) (λF h9=>h9.1.1.1.2.1) O rfl JP (XL (f:=Xcv) (l:=(E8 n)) (by rw[Xa1];omega)))<|QP I (λw F hF ⟨⟨⟨⟨⟨⟨⟨⟨⟨⟨⟨⟨hGl,hs34⟩,hs36⟩,hs38⟩,hs39⟩,_⟩,hs42⟩,_⟩,_⟩,h52⟩,h58⟩,_⟩,_⟩=>Xdw (y:=(Xd2 b34 b36 b38 b39 b42 a c)) (c:=c58) (T:=tb) (es:=E8 n) (m:=1) (t:=(el (E8 n) i.i)) (V:=(el tb i.i).2.2) hF hGl (Xao hs34 hs36 hs38 hs39 hs42 hla hlc).r (Xao hs34 hs36 hs38 hs39 hs42 hla hlc).t hye rfl wu h58 hEs hTb (hEs.sz _ (by rw[Xa1];exact hlt)) hpos (Xdv h58 hEs hTb (by rw[Xa1];exact hlt))) λc106=>YU _ (λ_ _ f k=>k.2.len) λn106=>?_
  have n107:c106.n=1:=by rw[<-n106,hbl.len]
  have n108:=hbl.len;refine QK (QD I)<|QK (QX I I)<|QK (QX I I)<|QK (QF I)<|QK (QF I)<|Q7<|QC<|QG<|JH QIM mixed wm<|QK (QD I)<|QK (QT (v:=.bool false) rfl rfl (dX _))<|QK (QD I)<|J1 I I<|QK (QD I)<|J1 I I<|QP I (λ_ _ f k=>Ns (n:=1) (l:=He (el tb i.i).2.2) f k.2.U4 (Xb4 n106 (by rw[<-n106,hbl.len];decide) hbl.sz)) λ_=>?_
  rw[IH hbl.len hbl.sz hbl.ord];refine J1 I I<|QK (QT (v:=.bool false) rfl rfl (dX _))<|QK (Qd I I I)<|QK (QD I)<|J1 I I<|QK (QD I)<|J1 I I<|QK (QD I)<|J1 I I<|QK (QD I)<|J1 I I<|QK (QD I)<|J1 I I<|QK (Q3 (n:=c52.n) i.i (λF h9=>h9.1.1.1.1.2.1) rfl rfl KE JP O)<|J1 I I<|QK (Q5 (n:=c52.n) ((i.i)*1) (λF h9=>h9.1.1.1.1.2.1) O rfl JP (XL (f:=Xcv) (l:=(E8 n)) (by rw[Xa1];omega)))<|J1 I I<|QP I (λ_ _ f k=>QDv (x:=((Qo a)*(Qo c))) (y:=(el (E8 n) i.i)) f O O) λ_=>J1 I I<|QP I (λ_ _ f k=>Xdb (x:=((Qo a)*(Qo c))*(el (E8 n) i.i)) f O) λ_=>J1 I I<|QP I (λ_ _ f k=>Xdh (s:=c) (y:=1-((Qo a)*(Qo c))*(el (E8 n) i.i)) f (EX hfc) hnz O) λ_=>J1 I I<|QK (QD I)<|J1 I I ?_
  refine QK (Q3 (n:=c106.n) (0) (λF h9=>h9.2.row) rfl wM J9 Jq O)<|J1 I I<|QK (JK (n:=c106.n) (vs:=[tx (Js (el (el tb i.i).2.2 (0)).1),tx (Js (el (el tb i.i).2.2 (0)).2)]) ((0)*2) (λF h9=>h9.2.row) O rfl Jq I λj v hv=>JQ (f:=Oz) (l:=(el tb i.i).2.2) Oy O hv)<|J1 I I<|QP I (λ_ _ f k=>Xdr (x:=(Qo c)/(1-((Qo a)*(Qo c))*(el (E8 n) i.i))) (B:=el (el tb i.i).2.2 0) f O (hbl.sz _ (Qv (by rw[hbl.len];decide))) hin) λ_=>J1 I I<|QK (XB I)<|QK (Qd I I I)<|Q7<|QC<|Yv I<|QO<|Qk<|QJM 3 I<|QA (Qw I I O)<|wB 2 I ?_
  exact Qm (⟨i.i+1,hlt⟩) (by show n-(i.i+1)<n-i.i;omega) wY QIM λF h=>h.1.1.1.1.1.1
 refine Qz ?_
 repeat first|refine QZ ?_|refine QQ wy ?_
 refine Qa<|QC<|QI7<|QI I (λ_ _ f k=>uJ f k.1.1.1.1.1.1.1.1.1.1.1.1) λ_=>wQ I<|QY ?_
 exact QJO I I (rfl) w8
end Go.Proofs.YtbpmnjieoncbcaaGreatDoor
