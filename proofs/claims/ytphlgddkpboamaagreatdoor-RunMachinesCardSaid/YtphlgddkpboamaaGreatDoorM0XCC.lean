/- Steps of the proof of the theorem in the last file. -/
import Derived.Test.YtphlgddkpboamaaGreatDoorP2
set_option linter.all false
set_option maxHeartbeats 4000000
namespace Go.Ev
open Go.RowKit
noncomputable section
def i63(n:Int):Bool:=Nat.ble n.natAbs 9223372036854775807
def mkQ(a:Int)(b:Nat):Option Rat:=if h:b≠0/\a.natAbs.Coprime b then some ⟨a,b,h.1,h.2⟩else none
def gm(x:A):Option Rat:=match x with
 |.g [.i .i64 a,.k (.slice none 0 0),.i .i64 (.ofNat b),.k (.slice none 0 0)]=>gu (i63 a&&Nat.ble b 9223372036854775807) (mkQ a b)
 |_=>none
def frA(q:Rat):Option A:=gu (i63 q.num&&Nat.ble q.den 9223372036854775807) (some (.g [.i .i64 q.num,.k (.slice none 0 0),.i .i64 (.ofNat q.den),.k (.slice none 0 0)]))
def QDr(op:Rat->Rat->Rat):Orb:=⟨fun l h n _=>match l with
 |[x,y]=>bd (gm x) fun q=>bd (gm y) fun r=>bd (frA (op q r)) fun a=>rz a h n
 |_=>none⟩
def QIi(op:Rat->Rat):Orb:=⟨fun l h n _=>match l with
 |[x]=>bd (gm x) fun q=>bd (frA (op q)) fun a=>rz a h n
 |_=>none⟩
def QBQ:Orb:=⟨fun l h n _=>match l with
 |[x,y]=>bd (gm x) fun q=>bd (gm y) fun r=>rz (.i .i64 (Proofs.YtphlgddkpboamaaGreatDoor.Dt q r)) h n
 |_=>none⟩
end
theorem AY{x:A}{q:Rat}(h:gm x=some q):x = .g [.i .i64 q.num,.k (.slice none 0 0),.i .i64 (.ofNat q.den),.k (.slice none 0 0)]/\q.num.natAbs<=9223372036854775807/\q.den<=9223372036854775807:=by
 unfold gm at h;split at h
 ·obtain⟨h1,h⟩:=Q5 h;rw[Bool.and_eq_true]at h1;unfold mkQ at h;split at h
  ·cases Option.some.inj h;exact⟨rfl,Nat.le_of_ble_eq_true h1.1,Nat.le_of_ble_eq_true h1.2⟩
  ·cases h
 ·cases h
theorem QBz{a:A}{q:Rat}(h:frA q=some a):a = .g [.i .i64 q.num,.k (.slice none 0 0),.i .i64 (.ofNat q.den),.k (.slice none 0 0)]/\q.num.natAbs<=9223372036854775807/\q.den<=9223372036854775807:=by
 unfold frA at h;obtain⟨h1,h⟩:=Q5 h;rw[Bool.and_eq_true]at h1;cases Option.some.inj h;exact⟨rfl,Nat.le_of_ble_eq_true h1.1,Nat.le_of_ble_eq_true h1.2⟩
theorem Mv.below{lv:Nat}{β:Be}{h:Tr B}{n:Po}{w w':World}(k:Ok β h n w)(b:Below w.heap.size w w'):Mv lv β h n w β h n w' :=
 ⟨Nat.le_refl _,fun _ _=>rfl,⟨fun q x hq=>by
  obtain⟨p,o,g1,g2,g3⟩:=k.ob q x hq;exact⟨p,o,g1,by rw[b.block _ (Array.getElem?_eq_some_iff.1 g2).1];exact g2,g3⟩,k.inj,k.top⟩,b.os,b.tape,b.output,trivial,b.size,fun i hi _=>b.block i hi,fun q c p h1 h2 _=>⟨q,c,p,h1,h2,rfl,id⟩,fun _ _ h=>h⟩
theorem dJ{P:Program}{f:FuncId}{lv:Nat}{args:List A}{h:Tr B}{n:Po}{r:R}{a:A}(he:Enters P f)(hr:rz a h n=some r)
  (H:∀(β:Be) (w:World) vs,Vs β args=some vs->∃v,V β a=some v/\Calls P f vs.toArray w fun e w'=>e = .returned v/\Below w.heap.size w w'):N2 P lv f args h n r:=fun β w vs hv hk _ _=>by
 obtain⟨e1,e2,e3⟩:=YE hr;obtain⟨v,h1,h2⟩:=H β w vs hv;refine .inr ⟨he _ _,h2.mono ?_⟩;rintro e w' ⟨rfl,hb⟩;exact⟨v,β,rfl,by rw[e1];exact h1,by rw[e2,e3];exact Mv.below hk hb⟩
end Go.Ev
namespace Go.Proofs.YtphlgddkpboamaaGreatDoor
open Go.RowKit Ig
def smF(q:Rat):Fr:=⟨⟨q.num,none,0,0⟩,⟨q.den,none,0,0⟩⟩
theorem zk(F:Gs){q:Rat}(h1:q.num.natAbs<=9223372036854775807)(h2:q.den<=9223372036854775807):XV F (smF q) q:=⟨Jk.small F (by omega) (by omega),Jk.small F (by omega) (by omega)⟩
theorem zj{q:Rat}(h1:q.num.natAbs<=9223372036854775807)(h2:q.den<=9223372036854775807):Zv q<=100000000:=by
 have a:sz q.num<=64:=(XK _ _).2 (by omega);have b:sz (q.den:Int)<=64:=(XK _ _).2 (by omega);unfold Zv;omega
theorem QE6{g:Bg}{z:Int}{F:Gs}{w:World}(hF:Fits F w)(h:Jk F g z)(hz:z.natAbs<=9223372036854775807):g=⟨z,none,0,0⟩:=by
 have h:=h w hF.r;obtain⟨s,q,n,cap⟩:=g;rcases h with ⟨h1,h2,h3,h4,_⟩ | ⟨b,off,l,_,_,_,_,_,_,_,_,h,hz2,hb⟩
 ·simp only at h1 h2 h3 h4;subst h1;subst h2;subst h3;subst h4;rfl
 ·exfalso;have hz:(s*dv W l).natAbs<=9223372036854775807:=by rw[hz2]at hz;exact hz
  have h:s=1\/s = -1:=h;rcases h with e | e<;>rw[e]at hz<;>omega
theorem dU(β:Ev.Be)(q:Rat):Ev.V β (.g [.i .i64 q.num,.k (.slice none 0 0),.i .i64 (.ofNat q.den),.k (.slice none 0 0)])=some (smF q).v:=rfl
theorem CB{f:FuncId}{args:List Value}{w:World}{r:Rat}(h:YA Tryz.prog f args w (GN w) r)(h1:r.num.natAbs<=9223372036854775807)(h2:r.den<=9223372036854775807):
  Calls Tryz.prog f args.toArray w fun e w'=>e = .returned (smF r).v/\Below w.heap.size w w':=by
 refine h.2.mono ?_;rintro e w' ⟨c,F',rfl,hx,_,_,hF',hc⟩;have hc:=hc F' (Gs.le_refl F');obtain⟨cn,cd⟩:=c;have e1:=QE6 hF' hc.1 h1;have e2:=QE6 hF' hc.2 (by omega);simp only at e1 e2;subst e1;subst e2;exact⟨rfl,hx.toBelow⟩
theorem pf{f:FuncId}{op:Rat->Rat->Rat}(he:Ev.Enters Tryz.prog f)(hc:∀ {w:World} {x y:Fr} {r s:Rat},XV (GN w) x r->XV (GN w) y s->Zv r<=100000000->Zv s<=100000000->YA Tryz.prog f [x.v,y.v] w (GN w) (op r s))
  {lv:Nat} {args:List Ev.A} {h:Ev.Tr Ev.B} {n:Ev.Po} {r:Ev.R} (hr:(Ev.QDr op).f args h n lv=some r):Ev.N2 Tryz.prog lv f args h n r:=by
 unfold Ev.QDr at hr;simp only at hr;split at hr
 case h_2=>cases hr
 rename_i x y;obtain⟨q,h1,hr⟩:=Ev.QX hr;obtain⟨s,h2,hr⟩:=Ev.QX hr;obtain⟨a,h3,hr⟩:=Ev.QX hr;obtain⟨rfl,b1,b2⟩:=Ev.AY h1;obtain⟨rfl,c1,c2⟩:=Ev.AY h2;obtain⟨rfl,d1,d2⟩:=Ev.QBz h3;refine Ev.dJ he hr fun β w vs hv=>⟨_,dU β _,?_⟩;obtain⟨v1,v2,e1,e2,rfl⟩:=Ev.Vs2 hv;cases Option.some.inj ((dU β q).symm.trans e1);cases Option.some.inj ((dU β s).symm.trans e2);exact CB (hc (zk _ b1 b2) (zk _ c1 c2) (zj b1 b2) (zj c1 c2)) d1 d2
theorem QJx{f:FuncId}{op:Rat->Rat}(he:Ev.Enters Tryz.prog f)(hc:∀ {w:World} {x:Fr} {r:Rat},XV (GN w) x r->Zv r<=100000000->YA Tryz.prog f [x.v] w (GN w) (op r))
  {lv:Nat} {args:List Ev.A} {h:Ev.Tr Ev.B} {n:Ev.Po} {r:Ev.R} (hr:(Ev.QIi op).f args h n lv=some r):Ev.N2 Tryz.prog lv f args h n r:=by
 unfold Ev.QIi at hr;simp only at hr;split at hr
 case h_2=>cases hr
 rename_i x;obtain⟨q,h1,hr⟩:=Ev.QX hr;obtain⟨a,h3,hr⟩:=Ev.QX hr;obtain⟨rfl,b1,b2⟩:=Ev.AY h1;obtain⟨rfl,d1,d2⟩:=Ev.QBz h3;refine Ev.dJ he hr fun β w vs hv=>⟨_,dU β _,?_⟩;obtain⟨v1,e1,rfl⟩:=Ev.Vs1 hv;cases Option.some.inj ((dU β q).symm.trans e1);exact CB (hc (zk _ b1 b2) (zj b1 b2)) d1 d2
theorem QBP{f:FuncId}(he:Ev.Enters Tryz.prog f)(hc:∀ {w:World} {x y:Fr} {r s:Rat},XV (GN w) x r->XV (GN w) y s->Zv r<=100000000->Zv s<=100000000->Qi Tryz.prog f [x.v,y.v] w (GN w) (.int .i64 (Dt r s)))
  {lv:Nat} {args:List Ev.A} {h:Ev.Tr Ev.B} {n:Ev.Po} {r:Ev.R} (hr:Ev.QBQ.f args h n lv=some r):Ev.N2 Tryz.prog lv f args h n r:=by
 unfold Ev.QBQ at hr;simp only at hr;split at hr
 case h_2=>cases hr
 rename_i x y;obtain⟨q,h1,hr⟩:=Ev.QX hr;obtain⟨s,h2,hr1⟩:=Ev.QX hr;have hr9:Ev.rz (.i .i64 (Dt q s)) h n=some r:=hr1;obtain⟨rfl,b1,b2⟩:=Ev.AY h1;obtain⟨rfl,c1,c2⟩:=Ev.AY h2;refine Ev.dJ he hr9 fun β w vs hv=>⟨_,rfl,?_⟩;obtain⟨v1,v2,e1,e2,rfl⟩:=Ev.Vs2 hv;cases Option.some.inj ((dU β q).symm.trans e1);cases Option.some.inj ((dU β s).symm.trans e2);refine(hc (zk _ b1 b2) (zk _ c1 c2) (zj b1 b2) (zj c1 c2)).2.mono ?_;rintro e w' ⟨_,F',rfl,hx,_⟩;exact⟨rfl,hx.toBelow⟩
noncomputable def RG:Ev.Ora:=fun f =>
 bif Nat.beq f 102 then some (Ev.QDr fun a b=>a*b)
 else bif Nat.beq f 129 then some (Ev.QDr fun a b=>a+b)
 else bif Nat.beq f 79 then some Ev.QBQ
 else Ev.QGD f
theorem VZ:Ev.xp Tryz.prog RG:=by
 intro f o ho lv args h n r hr;unfold RG at ho;simp only[cond_eq_ite]at ho;split at ho
 ·rename_i e;have e:=Nat.eq_of_beq_eq_true e;subst e;cases Option.some.inj ho;exact pf (Ev.enters_of Tryz.func102 (by kernel_rfl) (by kernel_rfl)) (fun hx hy h1 h2=>Fy (G8 _) hx hy h1 h2) hr
 split at ho
 ·rename_i e;have e:=Nat.eq_of_beq_eq_true e;subst e;cases Option.some.inj ho;exact pf (Ev.enters_of Tryz.func129 (by kernel_rfl) (by kernel_rfl)) (fun hx hy h1 h2=>gv (G8 _) hx hy h1 h2) hr
 split at ho
 ·rename_i e;have e:=Nat.eq_of_beq_eq_true e;subst e;cases Option.some.inj ho;exact QBP (Ev.enters_of Tryz.func79 (by kernel_rfl) (by kernel_rfl)) (fun hx hy h1 h2=>xF (G8 _) hx hy h1 h2) hr
 exact Ev.QDq f o ho lv args h n r hr
end Go.Proofs.YtphlgddkpboamaaGreatDoor
