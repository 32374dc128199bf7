/-
 The next spot of a room and a step of the loop: what both compute. No program is named here.
 Conditions: none.
-/
import Derived.Test.YtabfdkpdppemaaaGreatV4
namespace Go.Proofs.YtabfdkpdppemaaaGreat
open Go.RowKit
def drivenOk (u:X5):Bool:=Xe u&&Z7 u.n (-1000*u.d) (1000*u.d)
def nxtS (r:XK) (s:XQ) (u:X5) (v:XQ):Option XQ:=Zw (nxtX r s u v) (nxtY r s u v) (nxtD r s u v)
def nxtBad (r:XK) (s:XQ) (u:X5) (v:XQ):Bool:=!(X0 r) || !(Xv s) || !(Xe u) || !(Xv v)||decide (s.d > 100000)||decide (v.d > 1000)||decide (u.d > 1000) || !(Z7 u.n (-1000*u.d) (1000*u.d))
def nxtO (r:XK) (s:XQ) (u:X5) (v:XQ):Option XQ:=if nxtBad r s u v=true then none else nxtS r s u v
def nxtBadI (s:XQ) (u:X5) (v:XQ):Bool:=!(Xv s) || !(Xv v)||decide (s.d > 100000)||decide (v.d > 1000)||decide (u.d > 1000) || !(drivenOk u)
theorem nxtBad_i {r:XK} {s:XQ} {u:X5} {v:XQ} (hr:X0 r=true):nxtBad r s u v=nxtBadI s u v:=by
 unfold nxtBad nxtBadI drivenOk;rw [hr];generalize Xv s=a;generalize Xv v=b;generalize Xe u=c;generalize Z7 u.n (-1000*u.d) (1000*u.d)=d;cases a<;>cases b<;>cases c<;>cases d<;>simp
theorem nxt_no {r:XK} {s:XQ} {u:X5} {v:XQ} (h:nxtBad r s u v=true):nxtO r s u v=none:=if_pos h
theorem nxt_yes {r:XK} {s:XQ} {u:X5} {v:XQ} (h:nxtBad r s u v=false):nxtO r s u v=nxtS r s u v:=if_neg (by rw [h];simp)
structure NxtIn (r:XK) (s:XQ) (u:X5) (v:XQ):Prop where
 room:X0 r=true
 sok:Xv s=true
 vok:Xv v=true
 sd:s.d<=100000
 vd:v.d<=1000
 ud:1<=u.d/\u.d<=1000
 un : -1000*u.d<=u.n/\u.n<=1000*u.d
theorem nxt_in {r:XK} {s:XQ} {u:X5} {v:XQ} (h:nxtBad r s u v=false):NxtIn r s u v:=by
 have h1:=or_f1 h;have h2:=or_f1 h1;have h3:=or_f1 h2;have h4:=or_f1 h3;have h5:=or_f1 h4;have h6:=or_f1 h5;have hu:=rok_bd (YY (or_f2 h5));have e:=YX.1 (YY (or_f2 h));have d1:=JZ (or_f2 h1);have d2:=JZ (or_f2 h2);have d3:=JZ (or_f2 h3);exact ⟨YY (or_f1 h6),YY (or_f2 h6),YY (or_f2 h4),by omega,by omega,⟨by omega,by omega⟩,e⟩
theorem nxt_bd {M D b n d x e:Int} (hM : -4000000000<=M/\M<=4000000000) (hD:1<=D/\D<=2000000) (hb : -100<=b/\b<=100) (hd:1<=d/\d<=1000) (hn : -1000*d<=n/\n<=1000*d) (he:1<=e/\e<=1000) (hx : -1000*e<=x/\x<=1000*e) :
 (-4000000000000<=M*d/\M*d<=4000000000000)/\(-100000000<=b*n/\b*n<=100000000)/\(-200000000000000<=b*n*D/\b*n*D<=200000000000000)/\(1<=D*d/\D*d<=2000000000)
 /\(-204000000000000000<=(M*d+b*n*D)*e/\(M*d+b*n*D)*e<=204000000000000000)/\(-2000000000000000<=x*(D*d)/\x*(D*d)<=2000000000000000)/\(1<=D*d*e/\D*d*e<=2000000000000):=by
 have a1:=J6 (a:=M) (b:=d) (A:=4000000000) (B:=1000) ⟨by omega,by omega⟩ ⟨by omega,by omega⟩;have a2:=J6 (a:=b) (b:=n) (A:=100) (B:=1000000) ⟨by omega,by omega⟩ ⟨by omega,by omega⟩;have a3:=J6 (a:=b*n) (b:=D) (A:=100000000) (B:=2000000) ⟨by omega,by omega⟩ ⟨by omega,by omega⟩;have a4:=J6 (a:=D) (b:=d) (A:=2000000) (B:=1000) ⟨by omega,by omega⟩ ⟨by omega,by omega⟩;have a5:=Int.mul_pos (show 0<D by omega) (show 0<d by omega);have a6:=J6 (a:=M*d+b*n*D) (b:=e) (A:=204000000000000) (B:=1000) ⟨by omega,by omega⟩ ⟨by omega,by omega⟩;have a7:=J6 (a:=x) (b:=D*d) (A:=1000000) (B:=2000000000) ⟨by omega,by omega⟩ ⟨by omega,by omega⟩;have a8:=J6 (a:=D*d) (b:=e) (A:=2000000000) (B:=1000) ⟨by omega,by omega⟩ ⟨by omega,by omega⟩;have a9:=Int.mul_pos a5 (show 0<e by omega);exact ⟨⟨by omega,by omega⟩,⟨by omega,by omega⟩,⟨by omega,by omega⟩,⟨by omega,by omega⟩,⟨by omega,by omega⟩,⟨by omega,by omega⟩,⟨by omega,by omega⟩⟩
theorem optSpot_eq (x:Option XQ):optSpotV x=.tuple #[YQ (x.getD Kj),.bool x.isSome]:=by cases x<;>rfl
variable {r:XK} {p:List Half} {s:XQ} {ws:List Int} {ns:List XQ}
theorem spotOf_ok {x y d:Int} {t:XQ} (h:Zw x y d=some t):Xv t=true:=by
 unfold Zw at h;split at h
 ·cases h
 ·split at h
  ·rename_i q
   injection h with h
   rw [<- h];exact q
  ·cases h
theorem nxtO_ok {u:X5} {v t:XQ} (h:nxtO r s u v=some t):Xv t=true:=by
 unfold nxtO at h;split at h
 ·cases h
 ·exact spotOf_ok h
end Go.Proofs.YtabfdkpdppemaaaGreat
namespace Go.Proofs.YtabfdkpdppemaaaGreat
open Go.RowKit
theorem four_adm {r:XK} {p:List Half} (hr:X0 r=true) {x0 x1 y0 y1 n e:Int} (he:0<e) {v0 v1 v2 v3:Zg} (h0:XH r p ⟨x0,y0,1⟩=some v0) (h1:XH r p ⟨x1,y0,1⟩=some v1) (h2:XH r p ⟨x1,y1,1⟩=some v2) (h3:XH r p ⟨x0,y1,1⟩=some v3)
 (b0:Btw v0 n e) (b1:Btw v1 n e) (b2:Btw v2 n e) (b3:Btw v3 n e) {x y:Int} (hx:x0<=x/\x<=x1) (hy:y0<=y/\y<=y1):(r.low*e<=n/\n<=r.high*e)/\∀ h∈Kb r p,AdmH r ⟨x,y,1⟩ h n e:=by
 have hE:=ZH (rpR_ok r p);have g:=λ{t:XQ} {v:Zg} (h:XH r p t=some v) (b:Btw v n e)=>((admit_btw hr (admAt_parts h).2.1 hE (admAt_parts h).2.2).btw n e he).1 b;exact ⟨(g h0 b0).1,λ h hh=>box_adm hx hy ((g h0 b0).2 h hh) ((g h1 b1).2 h hh) ((g h2 b2).2 h hh) ((g h3 b3).2 h hh)⟩
end Go.Proofs.YtabfdkpdppemaaaGreat
