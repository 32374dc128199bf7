/-
 What the functions that mark tables, tracks and watches return: they change the marked slices' own blocks alone.
 Conditions: the slices hold at most 2^20 elements.
-/
import Derived.Test.YtbekjpkcicjcgaaGreatWatN
import Derived.Test.YtbekjpkcicjcgaaGreatJdg
import Derived.Test.YtbekjpkcicjcgaaGreatDrw
import Derived.WalkKit
namespace Go.Proofs.YtbekjpkcicjcgaaGreat
open Go.RowKit
structure WatchMk (w:World) (x:Jv) (a:J3) (K:Int):Prop where
 room:RoomMk w x.room a.room K
 reg:Sl 3 Xe w a.reg.A (markHalfs (K+x.room.map.length+x.room.noise.length*3+x.room.limits.length*3) x.reg.length)
 log:Sl 1 Kk w a.log.A (markInts (K+x.room.map.length+x.room.noise.length*3+x.room.limits.length*3+x.reg.length*3) x.log.length)
theorem WatchMk.below {w w':World} {x:Jv} {a:J3} {K:Int} (h:WatchMk w x a K) (hb:Below w.heap.size w w'):WatchMk w' x a K:=⟨h.room.below hb,h.reg.below hb,h.log.below hb⟩
def accH (H:XH->Bool) (A:XH->Option YQ) (l:List XH):Nat->Option YQ
 | 0=>some Xu
 | k+1=>(accH H A l k).bind λ w=>if H (l.getD k Yi)=true then (A (l.getD k Yi)).bind λ v=>if k=0 then some v else JM w v else none
theorem accH_eq {H:XH->Bool} {A:XH->Option YQ} {l:List XH}:∀ k,k<=l.length->accH H A l k=if (l.take k).all H=true then Ky A l k else none
 | 0,_=>by rw [accH,Ky,List.take_zero];rfl
 | k+1,hk=>by
  have h:k<l.length:=Oz
  rw [accH,accH_eq k Oz,Ky,List.take_add_one,List.getElem?_eq_getElem h,List.all_append,getD_el h];simp only [Option.toList_some,List.all_cons,List.all_nil,Bool.and_true];rcases Bool.eq_false_or_eq_true ((l.take k).all H) with h1|h1
  ·rw [h1,if_pos rfl,Bool.true_and];rcases Bool.eq_false_or_eq_true (H l[k]) with h2|h2
   ·rw [h2];simp
   ·rw [h2];cases Ky A l k<;>simp
  ·rw [h1,if_neg Sz,Bool.false_and,if_neg Sz];rfl
theorem wgcd (x y:Int):Xn [x,y,1]=1:=by
 obtain ⟨_,_,h⟩:=@gcdAll_dvd x y 1;have:=Int.natAbs_dvd_natAbs.2 h;simp at this;exact this
theorem wspot_ok {x y:Int} (hx : -1000<=x/\x<=1000) (hy : -1000<=y/\y<=1000):Xo ⟨x,y,1⟩=true:=by
 unfold Xo;rw [wgcd];simp [ZT];omega
theorem admAt_parts {r:XD} {p:List Half} {s:XH} {v:YQ} (h:XL r p s=some v):Yh r p=true/\Xo s=true/\Ym r (Jl r p) s=some v:=by
 unfold XL at h;split at h
 ·rename_i k
  exact ⟨k.1,k.2,h⟩
 ·cases h
theorem admAt_span {r:XD} {p:List Half}:∀ t v,XL r p t=some v->XN v=true:=λ _ _ h=>Ja (admAt_parts h).2.2
theorem four_adm {r:XD} {p:List Half} (hr:XJ r=true) {x0 x1 y0 y1 n e:Int} (he:0<e) {v0 v1 v2 v3:YQ} (h0:XL r p ⟨x0,y0,1⟩=some v0) (h1:XL r p ⟨x1,y0,1⟩=some v1) (h2:XL r p ⟨x1,y1,1⟩=some v2) (h3:XL r p ⟨x0,y1,1⟩=some v3)
 (b0:Btw v0 n e) (b1:Btw v1 n e) (b2:Btw v2 n e) (b3:Btw v3 n e) {x y:Int} (hx:x0<=x/\x<=x1) (hy:y0<=y/\y<=y1):(r.low*e<=n/\n<=r.high*e)/\∀ h∈Jl r p,AdmH r ⟨x,y,1⟩ h n e:=by
 have hE:=Zp (rpR_ok r p);have g:=λ{t:XH} {v:YQ} (h:XL r p t=some v) (b:Btw v n e)=>((admit_btw hr (admAt_parts h).2.1 hE (admAt_parts h).2.2).btw n e he).1 b;exact ⟨(g h0 b0).1,λ h hh=>box_adm hx hy ((g h0 b0).2 h hh) ((g h1 b1).2 h hh) ((g h2 b2).2 h hh) ((g h3 b3).2 h hh)⟩
section
variable {a b:Bool}
theorem bp_nf (h:a=true):(!a)=false:=by rw [h];rfl
end
theorem drawn_lim {r:XD} (h:JP r):r.limits.length<=1048576:=by
 have:=Y0 (JA h.d.ok).limits;omega
theorem drawn_noi {r:XD} (h:JP r):r.noise.length<=1048576:=by
 have:=Y0 (JA h.d.ok).noise;omega
structure RoomHi (a:Y7) (n:Nat):Prop where
 map:∀ p,a.map.A=some p->p.block<n
 noise:∀ p,a.noise.A=some p->p.block<n
 limits:∀ p,a.limits.A=some p->p.block<n
theorem Zg.hi {w:World} {base:Nat} {x:XD} {a:Y7} (h:Zg w base x a):RoomHi a w.heap.size:=⟨λ p hp=>(h.map.blk p hp).2,λ p hp=>(h.noise.blk p hp).2,λ p hp=>(h.limits.blk p hp).2⟩
theorem reg_in {p:List Half} (h:Xc p=true):∀ g∈p,g.In:=λ g hg=>hIn (Jt (Zp h g hg))
theorem opt_some {o:Option YQ} {v:YQ} (e:o=some v) {f:FuncId} {args:Array Value} {w:World} (h:Calls Tryz.prog f args w λ x w'=>x=.returned (Je o)/\Below w.heap.size w w') :
 Calls Tryz.prog f args w λ x w'=>x=.returned (.tuple #[ZC v,.bool true])/\Below w.heap.size w w':=by
 rw [e] at h;exact h
theorem ratIn {r:XW} (h:Xh r=true):r.In:=by
 obtain ⟨a,b,c,d⟩:=rok_bd h;exact ⟨⟨Oz,Oz⟩,⟨Oz,Oz⟩⟩
theorem red_pts {h:Half} {X Y D:Int} {t:XH} (hD:0<D) (e:Y9 X Y D=some t):YJ h X Y D ↔ YJ h t.x t.y t.d:=by
 unfold Y9 at e;split at e
 ·cases e
 ·split at e
  ·injection e with e
   subst e;obtain ⟨p,f1,f2,f3⟩:=red_scale (x:=X) (y:=Y) (d:=D) Oz;generalize ((Xn [X,Y,D]:Nat):Int)=g at *;generalize Ku X Y D=t at *;unfold YJ;have e1:h.a*X+h.b*Y=(h.a*t.x+h.b*t.y)*g:=by rw [f1,f2];grind
   have e2:h.c*D=h.c*t.d*g:=by rw [f3];grind
   rw [e1,e2];exact ⟨λ k=>JS p k,λ k=>Int.mul_le_mul_of_nonneg_right k Oz⟩
  ·cases e
theorem inP_red {p:List Half} {X Y D:Int} {t:XH} (hD:0<D) (e:Y9 X Y D=some t) (h:InP p X Y D):InP p t.x t.y t.d:=λ k hk=>(red_pts hD e).1 (h k hk)
theorem rob_all {r:XD} {p:List Half} (h:Yh r p=true):XJ r=true/\Xc p=true/\p≠[]/\Jl r p=Z0 r p/\Jl r p≠[]:=by
 unfold Yh rpOk at h;simp only [Bool.and_eq_true,Bool.not_eq_true',decide_eq_false_iff_not] at h;obtain ⟨⟨h2,⟨hr,hp⟩,_⟩,h3⟩:=h;exact ⟨hr,hp,λ e=>h2 (by rw [e];rfl),(rp_eq hr hp).2,λ e=>h3 (by rw [e];rfl)⟩
theorem held {r:XD} {p:List Half} {s:XH} {w:YQ} {u:XW} (e:XL r p s=some w) (hu:1<=u.d) (hb:Btw w u.n u.d) {v:XH} (hv:v∈Xj r.noise):0<nxtD r s u v/\InP p (nxtX r s u v) (nxtY r s u v) (nxtD r s u v):=by
 obtain ⟨h1,h2,h3⟩:=admAt_parts e;obtain ⟨hr,hp,hpn,he,hen⟩:=rob_all h1;have R:=JA hr;have hE:=Zp (rpR_ok r p);obtain ⟨_,hA⟩:=((admit_btw hr h2 hE h3).btw u.n u.d Oz).1 hb;obtain ⟨i,o⟩:=corner_in R.noise hv;have vd:=Jy o;have sd:=Jy h2;have md:0<Ya r s:=by
  have:=(JX hr).div;exact Int.mul_pos Oz Oz
 have hd:0<Ya r s*u.d:=Int.mul_pos md Oz;have hz:InP (Z0 r p) (KM r s*u.d+r.bx*u.n*Ya r s) (KT r s*u.d+r.by_*u.n*Ya r s) (Ya r s*u.d):=by
  rw [<- he];exact λ h hh=>admH_iff.1 (hA h hh)
 have hen':ZD (Z3 r.noise) p≠[]:=by rw [he] at hen;exact hen
 exact ⟨Int.mul_pos hd Oz,ero_add R.noise R.nne hp hen' hd Oz hz i⟩
theorem held_next {r:XD} {p:List Half} {s:XH} {w:YQ} {u:XW} (e:XL r p s=some w) (hu:1<=u.d) (hb:Btw w u.n u.d) {v t:XH} (hv:v∈Xj r.noise) (ht:ZO r s u v=some t):YL p t=true:=by
 obtain ⟨hd,hi⟩:=held e hu hb hv;obtain ⟨hr,hp,hpn,_⟩:=rob_all (admAt_parts e).1;unfold ZO at ht;split at ht
 ·cases ht
 ·exact holdsB_pt.2 ⟨hpn,inP_red hd ht hi⟩
def YC (r:XD) (p e:List Half) (t:JI) (i j:Int):Option YQ:=accH (YL p) (Ym r e) (Xg t i j) 4
theorem spanC_eq (r:XD) (p e:List Half) (t:JI) (i j:Int):YC r p e t i j=if (Xg t i j).all (YL p)=true then Ky (Ym r e) (Xg t i j) 4 else none:=by
 unfold YC;rw [accH_eq 4 (by simp [Xg])];rfl
def KG (w:YQ) (wish:Int):Int:=if Yf w.low > XU w.high then -1000000 else max (Yf w.low) (min (XU w.high) wish)
def filC (r:XD) (p e:List Half) (t:JI) (wish:Int) (ok:Bool) (i j:Int):Int:=if ok=true then (match YC r p e t i j with|some w=>KG w wish|none=>-1000000) else -1000000
def filK (r:XD) (p e:List Half) (t:JI) (wish:Int) (ok:Bool) (n:Nat):List Int:=(List.range n).map λ(k:Nat)=>filC r p e t wish ok ((k % t.nx.toNat:Nat):Int) ((k / t.nx.toNat:Nat):Int)
theorem filK_len (r:XD) (p e:List Half) (t:JI) (wish:Int) (ok:Bool) (n:Nat):(filK r p e t wish ok n).length=n:=by unfold filK;rw [List.length_map,List.length_range]
theorem filK_next (r:XD) (p e:List Half) (t:JI) (wish:Int) (ok:Bool) (n:Nat):filK r p e t wish ok (n+1)=filK r p e t wish ok n++[filC r p e t wish ok ((n % t.nx.toNat:Nat):Int) ((n / t.nx.toNat:Nat):Int)]:=by
 unfold filK;rw [List.range_succ,List.map_append];rfl
theorem filK_row (r:XD) (p e:List Half) (t:JI) (wish:Int) (ok:Bool) {i j:Nat} (h:i<t.nx.toNat):filK r p e t wish ok (j*t.nx.toNat+i+1)=filK r p e t wish ok (j*t.nx.toNat+i)++[filC r p e t wish ok (i:Int) (j:Int)]:=by
 rw [filK_next];have e1:(j*t.nx.toNat+i) % t.nx.toNat=i:=by rw [Nat.mul_comm,Nat.mul_add_mod,Nat.mod_eq_of_lt h]
 have e2:(j*t.nx.toNat+i) / t.nx.toNat=j:=by rw [Nat.mul_comm,Nat.mul_add_div Oz,Nat.div_eq_of_lt h,Nat.add_zero]
 rw [e1,e2]
theorem wh_gcd (x y:Int):Xn [x,y,1]=1:=by
 obtain ⟨_,_,h⟩:=@gcdAll_dvd x y 1;have:=Int.natAbs_dvd_natAbs.2 h;simp at this;exact this
theorem wh_ok {x y:Int} (hx : -1000<=x/\x<=1000) (hy : -1000<=y/\y<=1000):Xo ⟨x,y,1⟩=true:=by
 unfold Xo;rw [wh_gcd];simp [ZT];omega
theorem cel_cnr {t:JI} {i j:Int} (h1:Yw t=true) (h2:cellB t i j=true):CellB t i j/\∀ s∈Xg t i j,Xo s=true/\s.d=1:=by
 have hb:=cellB_bd h1 h2;refine ⟨hb, ?_⟩;obtain ⟨g1,g2,g3,g4,g5,_,g7,g8⟩:=Kg.1 h1;simp only [cellB,Bool.and_eq_true,decide_eq_true_eq] at h2;have m1:(i+1)*t.step<=t.nx*t.step:=Int.mul_le_mul_of_nonneg_right Oz Oz;have m2:(j+1)*t.step<=t.ny*t.step:=Int.mul_le_mul_of_nonneg_right Oz Oz;rw [Int.add_mul,Int.one_mul] at m1 m2;have b1:=hb.is;have b2:=hb.js;intro s hs;simp only [Xg,List.mem_cons,List.not_mem_nil,or_false] at hs;rcases hs with rfl|rfl|rfl|rfl<;>exact ⟨wh_ok ⟨Oz,Oz⟩ ⟨Oz,Oz⟩,rfl⟩
theorem rob_parts2 {r:XD} {p:List Half} (h:Yh r p=true):XJ r=true/\Xc p=true:=by
 simp only [Yh,rpOk,Bool.and_eq_true] at h;exact ⟨h.1.2.1.1,h.1.2.1.2⟩
theorem filC_off {r:XD} {p e:List Half} {t:JI} {wish:Int} {i j:Int} {ok:Bool} (h:ok=false):filC r p e t wish ok i j = -1000000:=by unfold filC;rw [if_neg (by rw [h];simp)]
theorem filC_none {r:XD} {p e:List Half} {t:JI} {wish:Int} {i j:Int} {ok:Bool} (h:(YC r p e t i j).isSome=false):filC r p e t wish ok i j = -1000000:=by
 unfold filC;split
 ·cases q:YC r p e t i j with
  | none=>rfl
  | some v=>rw [q] at h;cases h
 ·rfl
theorem filC_some {r:XD} {p e:List Half} {t:JI} {wish:Int} {i j:Int} {ok:Bool} (h0:ok=true) (h:(YC r p e t i j).isSome=true):filC r p e t wish ok i j=KG ((YC r p e t i j).getD Xu) wish:=by
 unfold filC;rw [if_pos h0];cases q:YC r p e t i j with
 | none=>rw [q] at h;cases h
 | some v=>rfl
def tab0:JI:=⟨0,0,0,0,0,[]⟩
def KX (r:XD) (p:List Half) (t:JI) (wish:Int):Bool:=ZT wish (-1000) 1000&&Yw t&&XJ r&&Xc p
def Yy (r:XD) (p:List Half) (t:JI) (wish:Int):JI:=if KX r p t wish=true then ⟨t.x0,t.y0,t.step,t.nx,t.ny,filK r p (Jl r p) t wish (Yh r p) (t.nx.toNat*t.ny.toNat)⟩ else tab0
theorem fil_no {r:XD} {p:List Half} {t:JI} {wish:Int} (h:KX r p t wish=false):Yy r p t wish=tab0:=by unfold Yy;rw [if_neg (by rw [h];simp)]
theorem fil_yes {r:XD} {p:List Half} {t:JI} {wish:Int} (h:KX r p t wish=true):Yy r p t wish=⟨t.x0,t.y0,t.step,t.nx,t.ny,filK r p (Jl r p) t wish (Yh r p) (t.nx.toNat*t.ny.toNat)⟩:=by unfold Yy;rw [if_pos h]
theorem grid_n {t:JI} (h:Yw t=true):t.nx.toNat*t.ny.toNat<=400/\((t.nx.toNat*t.ny.toNat:Nat):Int)=t.nx*t.ny:=by
 obtain ⟨_,_,_,g4,g5,g6,_⟩:=Kg.1 h;have e:((t.nx.toNat*t.ny.toNat:Nat):Int)=t.nx*t.ny:=by
  rw [Int.natCast_mul,Int.toNat_of_nonneg Oz,Int.toNat_of_nonneg Oz]
 exact ⟨Oz,e⟩
theorem fil_le (r:XD) (p:List Half) (t:JI) (wish:Int):(Yy r p t wish).cells.length<=400:=by
 unfold Yy;split
 ·rename_i h
  unfold KX at h;simp only [Bool.and_eq_true] at h;rw [filK_len];exact (grid_n h.1.1.2).1
 ·exact Nat.zero_le _
def cellIx (t:JI) (s:XH):Nat:=((Zz t s).2*t.nx+(Zz t s).1).toNat
def YG (t:JI) (s:XH):Int × Bool :=
 if (Zz t s).1<0 then (0,false)
 else if t.cells.getD (cellIx t s) 0 = -1000000 then (0,false)
 else (t.cells.getD (cellIx t s) 0,true)
theorem tableOk_len {t:JI} (h:ZZ t=true):(t.cells.length:Int)=t.nx*t.ny:=by
 simp only [ZZ,Bool.and_eq_true,decide_eq_true_eq] at h;exact h.1.2
theorem cellOf_bd {t:JI} {s:XH} (h:0<=(Zz t s).1):ZZ t=true/\(Zz t s).1<t.nx/\0<=(Zz t s).2/\(Zz t s).2<t.ny:=by
 unfold Zz at h ⊢;by_cases h1:ZZ t=true/\Xo s=true
 ·rw [if_pos h1] at h ⊢;obtain ⟨⟨_,_⟩,⟨_,_⟩,⟨_,_⟩,⟨g7,g8⟩,⟨g9,g10⟩,_⟩:=Kg.1 (tableOk_grid h1.1);have b1:=firstGo_bd (p:=KY s.x s.d t.x0 t.step) (t.nx.toNat-0) 0;have b2:=firstGo_bd (p:=KY s.y s.d t.y0 t.step) (t.ny.toNat-0) 0;split at h
  ·simp at h
  ·rename_i h2
   rw [if_neg h2];unfold KK at h2 ⊢;exact ⟨h1.1,by simp only;omega,by simp only;omega,by simp only;omega⟩
 ·rw [if_neg h1] at h;simp at h
structure IxB (t:JI) (i j:Int):Prop where
 m:0<=j*t.nx/\j*t.nx<=10000
 p:0<=j*t.nx+i/\j*t.nx+i<t.cells.length
theorem ixB {t:JI} {s:XH} (h:0<=(Zz t s).1):IxB t (Zz t s).1 (Zz t s).2:=by
 obtain ⟨h1,h2,h3,h4⟩:=cellOf_bd h;have hl:=tableOk_len h1;obtain ⟨⟨_,_⟩,⟨_,_⟩,⟨_,_⟩,⟨g7,g8⟩,⟨g9,g10⟩,_⟩:=Kg.1 (tableOk_grid h1);generalize (Zz t s).1=i at *;generalize (Zz t s).2=j at *;have a0:0<=j*t.nx:=Int.mul_nonneg h3 Oz;have a1:j*t.nx<=100*t.nx:=Int.mul_le_mul_of_nonneg_right Oz Oz;have a2:(j+1)*t.nx<=t.ny*t.nx:=Int.mul_le_mul_of_nonneg_right Oz Oz;rw [Int.add_mul,Int.one_mul,Int.mul_comm t.ny] at a2;exact ⟨⟨a0,Oz⟩,⟨Oz,Oz⟩⟩
set_option maxRecDepth 100000 in
set_option maxHeartbeats 2000000 in
theorem iInputAt_c (t:JI) (A:Option Addr) (cap:Nat) (s:XH) (w:World) (ht:t.In) (hsi:s.In) (hn:t.cells.length<=1048576) (hs:Sl 1 Kk w A t.cells) :
 Calls Tryz.prog 19 #[tabV t A cap,Yu s] w λ e w'=>e=.returned (.tuple #[.int .i64 (YG t s).1,.bool (YG t s).2])/\Below w.heap.size w w':=by
 have c1:=λ W h=>iCellOf_c t A cap s W ht hsi hn h;obtain ⟨R,hR⟩:∃ R,R=YG t s:=⟨_,rfl⟩;rw [<- hR];unfold YG at hR;have hd:=Lib.hid hR;clear hR;have hix:=λ h=>@ixB t s h;have hcx:cellIx t s=((Zz t s).2*t.nx+(Zz t s).1).toNat:=rfl;generalize cellIx t s=x at *;generalize (Zz t s).1=i at *;generalize (Zz t s).2=j at *;by_cases hi:i<0
 ·have hfin:=Lib.hid (show R=(0,false) by have:=hd.out;rw [if_pos hi] at this;exact this);clear hd hix hcx;go_enter Tryz.func19,Tryz.ntmps19
  go_wp2_with (fail)
  refine (c1 _ (Sl.below hs (by exact Xw))).mono ?_;rintro e w1 ⟨rfl,hb1⟩;go_wp2
  refine bodyPost_ret (v:=.tuple #[.int .i64 0,.bool false]) (by simp [results,Tryz.results19,go_sem]) rfl ⟨by rw [hfin.out], ?_⟩;exact Xw
 ·obtain ⟨⟨m1,m2⟩,p1,p2⟩:=hix Oz;obtain ⟨b,off,rfl,hblt,hc⟩:=hs Oz;have hxl:x<t.cells.length:=Oz
  have hx2:(x:Int)=j*t.nx+i:=Oz
  have hg:=hc x hxl 0 _ rfl;have hgd:t.cells.getD x 0=t.cells[x]:=by rw [List.getD_eq_getElem?_getD,List.getElem?_eq_getElem hxl];rfl
  rw [hgd,if_neg hi] at hd;have g0:w.cell? ⟨b,off+(j*t.nx+i).toNat,none⟩=some (.int .i64 t.cells[x]):=by rw [<- hcx];simpa using hg
  have hs':=Lib.hid hs;clear hc hg hgd hix hs;have HX:=Lib.hid hcx;have HY:=Lib.hid hx2;clear hcx hx2;generalize t.cells[x]=n at *;by_cases hn0:n = -1000000
  ·have hfin:=Lib.hid (show R=(0,false) by have:=hd.out;rw [if_pos hn0] at this;exact this);clear hd;have hq:(n == -1000000)=true:=by simp [hn0]
   have HN:=Lib.hid hn0;clear hn0;go_enter Tryz.func19,Tryz.ntmps19
   go_wp2_with (fail)
   refine (c1 _ (Sl.below hs'.out (by exact Xw))).mono ?_;rintro e w1 ⟨rfl,hb1⟩;have r1:=XA hb1;have l0:w.heap.size<w1.heap.size:=XM hb1;have l1:w.heap.size+1<w1.heap.size:=XM hb1;have g1:w1.cell? ⟨b,off+(j*t.nx+i).toNat,none⟩=some (.int .i64 n):=by
    have hbw:Below w.heap.size w w1:=by
     exact Xw
    exact (hbw.cell (p:=⟨b,off+(j*t.nx+i).toNat,none⟩) hblt).trans g0
   go_wp2
   refine bodyPost_ret (v:=.tuple #[.int .i64 0,.bool false]) (by simp [results,Tryz.results19,go_sem]) rfl ⟨by rw [hfin.out], ?_⟩;exact Xw
  ·have hfin:=Lib.hid (show R=(n,true) by have:=hd.out;rw [if_neg hn0] at this;exact this);clear hd;have hq:(n == -1000000)=false:=by simpa using hn0
   clear hn0;go_enter Tryz.func19,Tryz.ntmps19
   go_wp2_with (fail)
   refine (c1 _ (Sl.below hs'.out (by exact Xw))).mono ?_;rintro e w1 ⟨rfl,hb1⟩;have r1:=XA hb1;have l0:w.heap.size<w1.heap.size:=XM hb1;have l1:w.heap.size+1<w1.heap.size:=XM hb1;have g1:w1.cell? ⟨b,off+(j*t.nx+i).toNat,none⟩=some (.int .i64 n):=by
    have hbw:Below w.heap.size w w1:=by
     exact Xw
    exact (hbw.cell (p:=⟨b,off+(j*t.nx+i).toNat,none⟩) hblt).trans g0
   go_wp2
   refine bodyPost_ret (v:=.tuple #[.int .i64 n,.bool true]) (by simp [results,Tryz.results19,go_sem]) rfl ⟨by rw [hfin.out], ?_⟩;exact Xw
end Go.Proofs.YtbekjpkcicjcgaaGreat
