/- Steps of the proof of the theorem in the last file. -/
import Derived.Test.YtogkbhegfnklhaaGreatDoorP4
set_option linter.all false
set_option maxHeartbeats 4000000
namespace Go.Ev
open Go.RowKit
noncomputable section
def i63(n:Int):Bool:=Nat.ble n.natAbs 9223372036854775807
def mkQ(a:Int)(b:Nat):Option Rat:=if h:b≠0/\a.natAbs.Coprime b then some ⟨a,b,h.1,h.2⟩else none
def QB0(x:A):Option Rat:=match x with
 |.g [.i .i64 a,.k (.slice none 0 0),.i .i64 (.ofNat b),.k (.slice none 0 0)]=>gu (i63 a&&Nat.ble b 9223372036854775807) (mkQ a b)
 |_=>none
def frA(q:Rat):Option A:=gu (i63 q.num&&Nat.ble q.den 9223372036854775807) (some (.g [.i .i64 q.num,.k (.slice none 0 0),.i .i64 (.ofNat q.den),.k (.slice none 0 0)]))
def QH3(op:Rat->Rat->Rat):Orb:=⟨fun l h n _=>match l with
 |[x,y]=>bd (QB0 x) fun q=>bd (QB0 y) fun r=>bd (frA (op q r)) fun a=>rz a h n
 |_=>none⟩
def QLk(op:Rat->Rat):Orb:=⟨fun l h n _=>match l with
 |[x]=>bd (QB0 x) fun q=>bd (frA (op q)) fun a=>rz a h n
 |_=>none⟩
def QFu:Orb:=⟨fun l h n _=>match l with
 |[x,y]=>bd (QB0 x) fun q=>bd (QB0 y) fun r=>rz (.i .i64 (Proofs.YtogkbhegfnklhaaGreatDoor.Ky q r)) h n
 |_=>none⟩
end
theorem OP{x:A}{q:Rat}(h:QB0 x=some q):x = .g [.i .i64 q.num,.k (.slice none 0 0),.i .i64 (.ofNat q.den),.k (.slice none 0 0)]/\q.num.natAbs<=9223372036854775807/\q.den<=9223372036854775807:=by
 unfold QB0 at h;split at h
 ·obtain⟨h1,h⟩:=Q9 h;rw[Bool.and_eq_true]at h1;unfold mkQ at h;split at h
  ·cases Option.some.inj h;exact⟨rfl,Nat.le_of_ble_eq_true h1.1,Nat.le_of_ble_eq_true h1.2⟩
  ·cases h
 ·cases h
theorem QGP{a:A}{q:Rat}(h:frA q=some a):a = .g [.i .i64 q.num,.k (.slice none 0 0),.i .i64 (.ofNat q.den),.k (.slice none 0 0)]/\q.num.natAbs<=9223372036854775807/\q.den<=9223372036854775807:=by
 unfold frA at h;obtain⟨h1,h⟩:=Q9 h;rw[Bool.and_eq_true]at h1;cases Option.some.inj h;exact⟨rfl,Nat.le_of_ble_eq_true h1.1,Nat.le_of_ble_eq_true h1.2⟩
theorem Mv.below{lv:Nat}{β:Be}{h:Tr B}{n:Po}{w w':World}(k:Ok β h n w)(b:Below w.heap.size w w'):Mv lv β h n w β h n w' :=
 ⟨Nat.le_refl _,fun _ _=>rfl,⟨fun q x d=>by
  obtain⟨p,o,g1,a,f⟩:=k.ob q x d;exact⟨p,o,g1,by rw[b.block _ (Array.getElem?_eq_some_iff.1 a).1];exact a,f⟩,k.inj,k.top⟩,b.os,b.tape,b.output,trivial,b.size,fun i hi _=>b.block i hi,fun q c p h1 h2 _=>⟨q,c,p,h1,h2,rfl,id⟩,fun _ _ h=>h⟩
theorem QCD{P:Program}{f:FuncId}{lv:Nat}{args:List A}{h:Tr B}{n:Po}{r:R}{a:A}(he:Enters P f)(hr:rz a h n=some r)
  (H:∀(β:Be) (w:World) vs,Vs β args=some vs->∃v,V β a=some v/\Calls P f vs.toArray w fun e w'=>e = .returned v/\Below w.heap.size w w'):Mg P lv f args h n r:=fun β w vs hv hk _ _=>by
 obtain⟨c,b,e3⟩:=YM hr;obtain⟨v,h1,h2⟩:=H β w vs hv;refine .inr ⟨he _ _,h2.mono ?_⟩;rintro e w' ⟨rfl,hb⟩;exact⟨v,β,rfl,by rw[c];exact h1,by rw[b,e3];exact Mv.below hk hb⟩
end Go.Ev
namespace Go.Proofs.YtogkbhegfnklhaaGreatDoor
open Go.RowKit Ig
def smF(q:Rat):Fr:=⟨⟨q.num,none,0,0⟩,⟨q.den,none,0,0⟩⟩
theorem uq(F:Gs){q:Rat}(h1:q.num.natAbs<=9223372036854775807)(h2:q.den<=9223372036854775807):Ja F (smF q) q:=⟨Jt.small F (by omega) (by omega),Jt.small F (by omega) (by omega)⟩
theorem um{q:Rat}(h1:q.num.natAbs<=9223372036854775807)(h2:q.den<=9223372036854775807):J6 q<=100000000:=by
 have a:sz q.num<=64:=(J3 _ _).2 (by omega);have b:sz (q.den:Int)<=64:=(J3 _ _).2 (by omega);unfold J6;omega
theorem QI9{g:Bg}{z:Int}{F:Gs}{w:World}(c:Fits F w)(h:Jt F g z)(hz:z.natAbs<=9223372036854775807):g=⟨z,none,0,0⟩:=by
 have h:=h w c.r;obtain⟨s,q,n,cap⟩:=g;rcases h with ⟨h1,h2,h3,h4,_⟩ | ⟨b,off,l,_,_,_,_,_,_,_,_,h,a,hb⟩
 ·simp only at h1 h2 h3 h4;subst h1;subst h2;subst h3;subst h4;rfl
 ·exfalso;have hz:(s*dv W l).natAbs<=9223372036854775807:=by rw[a]at hz;exact hz
  have h:s=1\/s = -1:=h;rcases h with e | e<;>rw[e]at hz<;>omega
theorem QCN(β:Ev.Be)(q:Rat):Ev.V β (.g [.i .i64 q.num,.k (.slice none 0 0),.i .i64 (.ofNat q.den),.k (.slice none 0 0)])=some (smF q).v:=rfl
theorem yL{f:FuncId}{args:List Value}{w:World}{r:Rat}(h:ZE Tryz.prog f args w (Hu w) r)(h1:r.num.natAbs<=9223372036854775807)(h2:r.den<=9223372036854775807):
  Calls Tryz.prog f args.toArray w fun e w'=>e = .returned (smF r).v/\Below w.heap.size w w':=by
 refine h.2.mono ?_;rintro e w' ⟨c,F',rfl,hx,_,_,a,hc⟩;have hc:=hc F' (Gs.le_refl F');obtain⟨cn,g⟩:=c;have d:=QI9 a hc.1 h1;have b:=QI9 a hc.2 (by omega);simp only at d b;subst d;subst b;exact⟨rfl,hx.toBelow⟩
theorem QC8{f:FuncId}{op:Rat->Rat->Rat}(he:Ev.Enters Tryz.prog f)(hc:∀ {w:World} {x y:Fr} {r s:Rat},Ja (Hu w) x r->Ja (Hu w) y s->J6 r<=100000000->J6 s<=100000000->ZE Tryz.prog f [x.v,y.v] w (Hu w) (op r s))
  {lv:Nat} {args:List Ev.A} {h:Ev.Tr Ev.B} {n:Ev.Po} {r:Ev.R} (hr:(Ev.QH3 op).f args h n lv=some r):Ev.Mg Tryz.prog lv f args h n r:=by
 unfold Ev.QH3 at hr;simp only at hr;split at hr
 case h_2=>cases hr
 rename_i x y;obtain⟨q,h1,hr⟩:=Ev.Qc hr;obtain⟨s,h2,hr⟩:=Ev.Qc hr;obtain⟨a,h3,hr⟩:=Ev.Qc hr;obtain⟨rfl,b1,b2⟩:=Ev.OP h1;obtain⟨rfl,c1,c2⟩:=Ev.OP h2;obtain⟨rfl,d1,d2⟩:=Ev.QGP h3;refine Ev.QCD he hr fun β w vs hv=>⟨_,QCN β _,?_⟩;obtain⟨v1,v2,e1,e2,rfl⟩:=Ev.Vs2 hv;cases Option.some.inj ((QCN β q).symm.trans e1);cases Option.some.inj ((QCN β s).symm.trans e2);exact yL (hc (uq _ b1 b2) (uq _ c1 c2) (um b1 b2) (um c1 c2)) d1 d2
theorem QM2{f:FuncId}{op:Rat->Rat}(he:Ev.Enters Tryz.prog f)(hc:∀ {w:World} {x:Fr} {r:Rat},Ja (Hu w) x r->J6 r<=100000000->ZE Tryz.prog f [x.v] w (Hu w) (op r))
  {lv:Nat} {args:List Ev.A} {h:Ev.Tr Ev.B} {n:Ev.Po} {r:Ev.R} (hr:(Ev.QLk op).f args h n lv=some r):Ev.Mg Tryz.prog lv f args h n r:=by
 unfold Ev.QLk at hr;simp only at hr;split at hr
 case h_2=>cases hr
 rename_i x;obtain⟨q,h1,hr⟩:=Ev.Qc hr;obtain⟨a,h3,hr⟩:=Ev.Qc hr;obtain⟨rfl,b1,b2⟩:=Ev.OP h1;obtain⟨rfl,d1,d2⟩:=Ev.QGP h3;refine Ev.QCD he hr fun β w vs hv=>⟨_,QCN β _,?_⟩;obtain⟨v1,e1,rfl⟩:=Ev.Vs1 hv;cases Option.some.inj ((QCN β q).symm.trans e1);exact yL (hc (uq _ b1 b2) (um b1 b2)) d1 d2
theorem QFt{f:FuncId}(he:Ev.Enters Tryz.prog f)(hc:∀ {w:World} {x y:Fr} {r s:Rat},Ja (Hu w) x r->Ja (Hu w) y s->J6 r<=100000000->J6 s<=100000000->QX Tryz.prog f [x.v,y.v] w (Hu w) (.int .i64 (Ky r s)))
  {lv:Nat} {args:List Ev.A} {h:Ev.Tr Ev.B} {n:Ev.Po} {r:Ev.R} (hr:Ev.QFu.f args h n lv=some r):Ev.Mg Tryz.prog lv f args h n r:=by
 unfold Ev.QFu at hr;simp only at hr;split at hr
 case h_2=>cases hr
 rename_i x y;obtain⟨q,h1,hr⟩:=Ev.Qc hr;obtain⟨s,h2,hr1⟩:=Ev.Qc hr;have hr9:Ev.rz (.i .i64 (Ky q s)) h n=some r:=hr1;obtain⟨rfl,b1,b2⟩:=Ev.OP h1;obtain⟨rfl,c1,c2⟩:=Ev.OP h2;refine Ev.QCD he hr9 fun β w vs hv=>⟨_,rfl,?_⟩;obtain⟨v1,v2,e1,e2,rfl⟩:=Ev.Vs2 hv;cases Option.some.inj ((QCN β q).symm.trans e1);cases Option.some.inj ((QCN β s).symm.trans e2);refine(hc (uq _ b1 b2) (uq _ c1 c2) (um b1 b2) (um c1 c2)).2.mono ?_;rintro e w' ⟨_,F',rfl,hx,_⟩;exact⟨rfl,hx.toBelow⟩
noncomputable def Ew:Ev.kg:=fun f =>
 bif Nat.beq f 137 then some (Ev.QH3 fun a b=>a*b)
 else bif Nat.beq f 161 then some (Ev.QH3 fun a b=>a+b)
 else bif Nat.beq f 79 then some Ev.QFu
 else Ev.QJ7 f
theorem Yc:Ev.UK Tryz.prog Ew:=by
 intro f o ho lv args h n r hr;unfold Ew at ho;simp only[cond_eq_ite]at ho;split at ho
 ·rename_i e;have e:=Nat.eq_of_beq_eq_true e;subst e;cases Option.some.inj ho;exact QC8 (Ev.enters_of Tryz.func137 (by kernel_rfl) (by kernel_rfl)) (fun hx hy h1 h2=>EN (B0 _) hx hy h1 h2) hr
 split at ho
 ·rename_i e;have e:=Nat.eq_of_beq_eq_true e;subst e;cases Option.some.inj ho;exact QC8 (Ev.enters_of Tryz.func161 (by kernel_rfl) (by kernel_rfl)) (fun hx hy h1 h2=>RJ (B0 _) hx hy h1 h2) hr
 split at ho
 ·rename_i e;have e:=Nat.eq_of_beq_eq_true e;subst e;cases Option.some.inj ho;exact QFt (Ev.enters_of Tryz.func79 (by kernel_rfl) (by kernel_rfl)) (fun hx hy h1 h2=>Al (B0 _) hx hy h1 h2) hr
 exact Ev.QH2 f o ho lv args h n r hr
end Go.Proofs.YtogkbhegfnklhaaGreatDoor
