/-
 What the program says of FnTop, by the kernel.
 Conditions: none.
-/
import Derived.JoinedOf
import Derived.Test.YtbekjpkcicjcgaaGreatGrXg
import Derived.Test.YtbekjpkcicjcgaaGreatGrXb
import Derived.Deep.QuietTactic
import Derived.BigQuiet
set_option maxRecDepth 100000
namespace Go.Proofs.YtbekjpkcicjcgaaGreat
open Go.RowKit
theorem j1_FnTop:(Rows.fnTopRow.inPlace == Tryz.prog.inPlace 3)=true:=by kernel_rfl
theorem j2_FnTop:(Rows.fnTopRow.unfollowed == Tryz.prog.unfollowed 3)=true:=by kernel_rfl
theorem JL (x:Option YQ):Jf x=.tuple #[ZC (x.getD Xu),Bv x.isSome]:=by cases x<;>rfl
theorem spotIn {s:XH} (h:Xo s=true):s.In:=by
 obtain ⟨h1,h2,h3,_⟩:=ZF.1 h;exact ⟨⟨Oz,Oz⟩,⟨Oz,Oz⟩,⟨Oz,Oz⟩⟩
theorem span0_In:Xu.In:=by
 have h:YU 0:=⟨Dz,Dz⟩;exact ⟨⟨h,h⟩,⟨h,h⟩⟩
theorem optIn {x:Option YQ} (h:∀ v,x=some v->XN v=true):(x.getD Xu).In:=by
 cases x with
 | none=>exact span0_In
 | some v=>exact span_In (h v rfl)
theorem admAt_ok {r:XD} {p:List Half} {s:XH} {v:YQ} (h:XL r p s=some v):XN v=true:=by
 unfold XL at h;split at h
 ·exact Jb h
 ·cases h
theorem accS_ok {A:XH->Option YQ} (hA:∀ t v,A t=some v->XN v=true) {l:List XH} {k:Nat} {v:YQ} (h:Ky A l (k+1)=some v):XN v=true:=by
 rw [Ky] at h;cases e:Ky A l k with
 | none=>rw [e] at h;cases h
 | some x =>
  rw [e] at h;simp only [Option.bind_some] at h;cases e2:A (l.getD k Yi) with
  | none=>rw [e2] at h;cases h
  | some y =>
   rw [e2] at h;simp only [Option.bind_some] at h;split at h
   ·cases h;exact hA _ _ e2
   ·exact meetSp_ok h
def XT (r:XU):Int:=if Xh r=true then r.n / r.d else 0
def Yf (r:XU):Int:=if Xh r=true then -(-r.n / r.d) else 0
def J0 (w:YQ) (u:XU):Bool:=XN w&&Xh u&&decide (XF w.low u<=0)&&decide (XF u w.high<=0)
theorem ratio_whole {n:Int} (h : -1000000000000000000<=n/\n<=1000000000000000000):XR n 1=⟨n,1⟩:=by
 obtain ⟨_,k,hk,e1,e2⟩:=ZE (n:=n) (d:=1) h ⟨Oz,Oz⟩;have h1:k ∣ 1:=⟨_,e2⟩;have h2:k<=1:=Int.le_of_dvd Oz h1;have h3:k=1:=Oz
 subst h3;rw [Int.one_mul] at e1 e2;cases hq:XR n 1 with
 | mk a b=>rw [hq] at e1 e2;simp only at e1 e2;rw [e1,<- e2]
theorem whole_ok {n:Int} (h : -1000000000000000000<=n/\n<=1000000000000000000):Xh ⟨n,1⟩=true:=by
 have:=(ZE (n:=n) (d:=1) h ⟨Oz,Oz⟩).1;rwa [ratio_whole h] at this
theorem rok_bd {r:XU} (h:Xh r=true) : -9223372036854775807<=r.n/\r.n<=9223372036854775807/\0<r.d/\r.d<=9223372036854775807:=by
 obtain ⟨⟨a,b⟩,⟨c,d⟩,_⟩:=Km.1 h;exact ⟨Oz,Oz,Oz,Oz⟩
theorem div_bd {n d:Int} (h1 : -9223372036854775807<=n) (h2:n<=9223372036854775807) (hd:0<d) : -9223372036854775807<=n / d/\n / d<=9223372036854775807:=floor_le hd 9223372036854775807 Oz Oz Oz
theorem floor_bd {r:XU} (h:Xh r=true) : -1000000000000000000<=XT r/\XT r<=1000000000000000000:=by
 obtain ⟨⟨a,b⟩,⟨c,d⟩,_⟩:=Km.1 h;unfold XT;rw [if_pos h];exact floor_le Oz 1000000000000000000 Oz Oz Oz
theorem ceil_bd {r:XU} (h:Xh r=true) : -1000000000000000000<=Yf r/\Yf r<=1000000000000000000:=by
 obtain ⟨⟨a,b⟩,⟨c,d⟩,_⟩:=Km.1 h;unfold Yf;rw [if_pos h];have:=floor_le (n:=-r.n) (d:=r.d) Oz 1000000000000000000 Oz Oz Oz;omega
theorem cmp_def {r s:XU} (hr:Xh r=true) (hs:Xh s=true):XF r s=sgn (r.n*s.d-s.n*r.d):=by
 unfold XF;rw [if_pos ⟨hr,hs⟩];rfl
def clampW (wish:Int):Int:=max (-1000) (min 1000 wish)
theorem clampW_bd (wish:Int) : -1000<=clampW wish/\clampW wish<=1000:=by unfold clampW;omega
def pick (v:YQ) (wish:Int):XU :=
 if XN v=true then
  (if XF ⟨clampW wish,1⟩ v.low<0 then (if XF ⟨Yf v.low,1⟩ v.high<=0 then ⟨Yf v.low,1⟩ else v.low)
  else if XF ⟨clampW wish,1⟩ v.high > 0 then (if XF ⟨XT v.high,1⟩ v.low ≥ 0 then ⟨XT v.high,1⟩ else v.high)
  else ⟨clampW wish,1⟩)
 else Ke
section
variable {v:YQ} {wish:Int} (h:XN v=true)
include h
end
def cellIx (t:JJ) (s:XH):Nat:=((Zz t s).2*t.nx+(Zz t s).1).toNat
def YG (t:JJ) (s:XH):Int × Bool :=
 if (Zz t s).1<0 then (0,false)
 else if t.cells.getD (cellIx t s) 0 = -1000000 then (0,false)
 else (t.cells.getD (cellIx t s) 0,true)
theorem tableOk_len {t:JJ} (h:ZZ t=true):(t.cells.length:Int)=t.nx*t.ny:=by
 simp only [ZZ,Bool.and_eq_true,decide_eq_true_eq] at h;exact h.1.2
theorem cellOf_bd {t:JJ} {s:XH} (h:0<=(Zz t s).1):ZZ t=true/\(Zz t s).1<t.nx/\0<=(Zz t s).2/\(Zz t s).2<t.ny:=by
 unfold Zz at h ⊢;by_cases h1:ZZ t=true/\Xo s=true
 ·rw [if_pos h1] at h ⊢;obtain ⟨⟨_,_⟩,⟨_,_⟩,⟨_,_⟩,⟨g7,g8⟩,⟨g9,g10⟩,_⟩:=Kg.1 (tableOk_grid h1.1);have b1:=firstGo_bd (p:=KZ s.x s.d t.x0 t.step) (t.nx.toNat-0) 0;have b2:=firstGo_bd (p:=KZ s.y s.d t.y0 t.step) (t.ny.toNat-0) 0;split at h
  ·simp at h
  ·rename_i h2
   rw [if_neg h2];unfold KK at h2 ⊢;exact ⟨h1.1,by simp only;omega,by simp only;omega,by simp only;omega⟩
 ·rw [if_neg h1] at h;simp at h
structure IxB (t:JJ) (i j:Int):Prop where
 m:0<=j*t.nx/\j*t.nx<=10000
 p:0<=j*t.nx+i/\j*t.nx+i<t.cells.length
theorem ixB {t:JJ} {s:XH} (h:0<=(Zz t s).1):IxB t (Zz t s).1 (Zz t s).2:=by
 obtain ⟨h1,h2,h3,h4⟩:=cellOf_bd h;have hl:=tableOk_len h1;obtain ⟨⟨_,_⟩,⟨_,_⟩,⟨_,_⟩,⟨g7,g8⟩,⟨g9,g10⟩,_⟩:=Kg.1 (tableOk_grid h1);generalize (Zz t s).1=i at *;generalize (Zz t s).2=j at *;have a0:0<=j*t.nx:=Int.mul_nonneg h3 Oz;have a1:j*t.nx<=100*t.nx:=Int.mul_le_mul_of_nonneg_right Oz Oz;have a2:(j+1)*t.nx<=t.ny*t.nx:=Int.mul_le_mul_of_nonneg_right Oz Oz;rw [Int.add_mul,Int.one_mul,Int.mul_comm t.ny] at a2;exact ⟨⟨a0,Oz⟩,⟨Oz,Oz⟩⟩
set_option maxHeartbeats 2000000 in
theorem iInputAt_c (t:JJ) (A:Option Addr) (cap:Nat) (s:XH) (w:World) (ht:t.In) (hsi:s.In) (hn:t.cells.length<=1048576) (hs:Sl 1 Kk w A t.cells) :
 Calls Tryz.prog 19 #[tabV t A cap,Yu s] w λ e w'=>e=.returned (.tuple #[.int .i64 (YG t s).1,.bool (YG t s).2])/\Below w.heap.size w w':=by
 have c1:=λ W h=>iCellOf_c t A cap s W ht hsi hn h;obtain ⟨R,hR⟩:∃ R,R=YG t s:=⟨_,rfl⟩;rw [<- hR];unfold YG at hR;have hd:=Lib.hid hR;clear hR;have hix:=λ h=>@ixB t s h;have hcx:cellIx t s=((Zz t s).2*t.nx+(Zz t s).1).toNat:=rfl;generalize cellIx t s=x at *;generalize (Zz t s).1=i at *;generalize (Zz t s).2=j at *;by_cases hi:i<0
 ·have hfin:=Lib.hid (show R=(0,false) by have:=hd.out;rw [if_pos hi] at this;exact this);clear hd hix hcx;go_enter Tryz.func19,Tryz.ntmps19
  go_wp2_with (fail)
  refine (c1 _ (Sl.below hs (by exact Xw))).mono ?_;rintro e w1 ⟨rfl,hb1⟩;go_wp2
  refine bodyPost_ret (v:=.tuple #[.int .i64 0,.bool false]) (by simp [results,Tryz.results19,go_sem]) rfl ⟨by rw [hfin.out], ?_⟩;exact Xw
 ·obtain ⟨⟨m1,m2⟩,p1,p2⟩:=hix Oz;obtain ⟨b,off,rfl,hblt,hc⟩:=hs Oz;have hxl:x<t.cells.length:=Oz
  have hx2:(x:Int)=j*t.nx+i:=Oz
  have hg:=hc x hxl 0 _ rfl;have hgd:t.cells.getD x 0=t.cells[x]:=by rw [List.getD_eq_getElem?_getD,List.getElem?_eq_getElem hxl];rfl
  rw [hgd,if_neg hi] at hd;have g0:w.cell? ⟨b,off+(j*t.nx+i).toNat,none⟩=some (.int .i64 t.cells[x]):=by rw [<- hcx];simpa using hg
  have hs':=Lib.hid hs;clear hc hg hgd hix hs;have HX:=Lib.hid hcx;have HY:=Lib.hid hx2;clear hcx hx2;generalize t.cells[x]=n at *;by_cases hn0:n = -1000000
  ·have hfin:=Lib.hid (show R=(0,false) by have:=hd.out;rw [if_pos hn0] at this;exact this);clear hd;have hq:(n == -1000000)=true:=by simp [hn0]
   have HN:=Lib.hid hn0;clear hn0;go_enter Tryz.func19,Tryz.ntmps19
   go_wp2_with (fail)
   refine (c1 _ (Sl.below hs'.out (by exact Xw))).mono ?_;rintro e w1 ⟨rfl,hb1⟩;have r1:=XA hb1;have l0:w.heap.size<w1.heap.size:=XM hb1;have l1:w.heap.size+1<w1.heap.size:=XM hb1;have g1:w1.cell? ⟨b,off+(j*t.nx+i).toNat,none⟩=some (.int .i64 n):=by
    have hbw:Below w.heap.size w w1:=by
     exact Xw
    exact (hbw.cell (p:=⟨b,off+(j*t.nx+i).toNat,none⟩) hblt).trans g0
   go_wp2
   refine bodyPost_ret (v:=.tuple #[.int .i64 0,.bool false]) (by simp [results,Tryz.results19,go_sem]) rfl ⟨by rw [hfin.out], ?_⟩;exact Xw
  ·have hfin:=Lib.hid (show R=(n,true) by have:=hd.out;rw [if_neg hn0] at this;exact this);clear hd;have hq:(n == -1000000)=false:=by simpa using hn0
   clear hn0;go_enter Tryz.func19,Tryz.ntmps19
   go_wp2_with (fail)
   refine (c1 _ (Sl.below hs'.out (by exact Xw))).mono ?_;rintro e w1 ⟨rfl,hb1⟩;have r1:=XA hb1;have l0:w.heap.size<w1.heap.size:=XM hb1;have l1:w.heap.size+1<w1.heap.size:=XM hb1;have g1:w1.cell? ⟨b,off+(j*t.nx+i).toNat,none⟩=some (.int .i64 n):=by
    have hbw:Below w.heap.size w w1:=by
     exact Xw
    exact (hbw.cell (p:=⟨b,off+(j*t.nx+i).toNat,none⟩) hblt).trans g0
   go_wp2
   refine bodyPost_ret (v:=.tuple #[.int .i64 n,.bool true]) (by simp [results,Tryz.results19,go_sem]) rfl ⟨by rw [hfin.out], ?_⟩;exact Xw
theorem rp_eq {r:XD} {p:List Half} (hr:XJ r=true) (hp:Xc p=true):rpOk r p=Zw (Z3 r.noise) p/\Jm r p=Z0 r p:=by
 unfold rpOk Jm Z0;rw [hr,hp,if_pos ⟨rfl,rfl⟩];exact ⟨rfl,rfl⟩
def accH (H:XH->Bool) (A:XH->Option YQ) (l:List XH):Nat->Option YQ
 | 0=>some Xu
 | k+1=>(accH H A l k).bind λ w=>if H (l.getD k Yi)=true then (A (l.getD k Yi)).bind λ v=>if k=0 then some v else JN w v else none
theorem accH_eq {H:XH->Bool} {A:XH->Option YQ} {l:List XH}:∀ k,k<=l.length->accH H A l k=if (l.take k).all H=true then Ky A l k else none
 | 0,_=>by rw [accH,Ky,List.take_zero];rfl
 | k+1,hk=>by
  have h:k<l.length:=Oz
  rw [accH,accH_eq k Oz,Ky,List.take_add_one,List.getElem?_eq_getElem h,List.all_append,getD_el h];simp only [Option.toList_some,List.all_cons,List.all_nil,Bool.and_true];rcases Bool.eq_false_or_eq_true ((l.take k).all H) with h1|h1
  ·rw [h1,if_pos rfl,Bool.true_and];rcases Bool.eq_false_or_eq_true (H l[k]) with h2|h2
   ·rw [h2];simp
   ·rw [h2];cases Ky A l k<;>simp
  ·rw [h1,if_neg Sz,Bool.false_and,if_neg Sz];rfl
def cellB (t:JJ) (i j:Int):Bool:=decide (0<=i)&&decide (i<t.nx)&&decide (0<=j)&&decide (j<t.ny)
def Xg (t:JJ) (i j:Int):List XH:=[⟨t.x0+i*t.step,t.y0+j*t.step,1⟩,⟨t.x0+i*t.step+t.step,t.y0+j*t.step,1⟩,⟨t.x0+i*t.step+t.step,t.y0+j*t.step+t.step,1⟩,⟨t.x0+i*t.step,t.y0+j*t.step+t.step,1⟩]
structure CellB (t:JJ) (i j:Int):Prop where
 x : -1000<=t.x0/\t.x0<=1000
 y : -1000<=t.y0/\t.y0<=1000
 s:1<=t.step/\t.step<=100
 is:0<=i*t.step/\i*t.step<=10000
 js:0<=j*t.step/\j*t.step<=10000
theorem cellB_bd {t:JJ} {i j:Int} (h:Yw t=true) (hb:cellB t i j=true):CellB t i j:=by
 obtain ⟨g1,g2,g3,g4,g5,_⟩:=Kg.1 h;simp only [cellB,Bool.and_eq_true,decide_eq_true_eq] at hb;obtain ⟨⟨⟨h1,h2⟩,h3⟩,h4⟩:=hb;have m1:=mul_bd (a:=i) (b:=t.step) (A:=100) (B:=100) Oz Oz;have m2:=mul_bd (a:=j) (b:=t.step) (A:=100) (B:=100) Oz Oz;exact ⟨g1,g2,g3,⟨Int.mul_nonneg h1 Oz,Oz⟩,⟨Int.mul_nonneg h3 Oz,Oz⟩⟩
theorem cellNew {T base g:Nat} (w:World) (t:JJ) (i j:Int) (hg:g=w.heap.size) (hb:base<=w.heap.size):XG T 3 Kz (w.alloc (.cells #[Vi (t.x0+i*t.step),Vi (t.y0+j*t.step),Vi 1,Vi (t.x0+i*t.step+t.step),Vi (t.y0+j*t.step),Vi 1,Vi (t.x0+i*t.step+t.step),Vi (t.y0+j*t.step+t.step),Vi 1,Vi (t.x0+i*t.step),Vi (t.y0+j*t.step+t.step),Vi 1] T)) base (Sv (some ⟨g,0,none⟩) 4 4) (Xg t i j):=by
 subst hg;exact ⟨_,4,rfl,Y5 Jg _,.inr ⟨w.heap.size,4,_,rfl,hb,heap_alloc_new w _,Nat.le_refl 4,Dz,rfl,rfl⟩⟩
theorem iCnrs_c (t:JJ) (A:Option Addr) (cap:Nat) (i j:Int) (w:World) (hb:CellB t i j) :
 Calls Tryz.prog 113 #[tabV t A cap,.int .i64 i,.int .i64 j] w λ e w'=>∃ v,e=.returned v/\XG 30 3 Kz w' w.heap.size v (Xg t i j)/\Below w.heap.size w w':=by
 obtain ⟨⟨b1,b2⟩,⟨b3,b4⟩,⟨b5,b6⟩,⟨b7,b8⟩,⟨b9,b10⟩⟩:=hb;go_enter Tryz.func113,Tryz.ntmps113
 go_wp2
 go_big_quiet (fail)
 go_wp2
 go_big_quiet (fail)
 go_wp2
 go_ret
 refine ⟨.slice (some ⟨w.heap.size+1,0,none⟩) 4 4,rfl, ?_, ?_⟩
 ·exact cellNew _ t i j Sz Sz
 ·exact Xw
def YC (r:XD) (p e:List Half) (t:JJ) (i j:Int):Option YQ:=accH (YL p) (Ym r e) (Xg t i j) 4
theorem spanC_eq (r:XD) (p e:List Half) (t:JJ) (i j:Int):YC r p e t i j=if (Xg t i j).all (YL p)=true then Ky (Ym r e) (Xg t i j) 4 else none:=by
 unfold YC;rw [accH_eq 4 (by simp [Xg])];rfl
def KG (w:YQ) (wish:Int):Int:=if Yf w.low > XT w.high then -1000000 else max (Yf w.low) (min (XT w.high) wish)
def filC (r:XD) (p e:List Half) (t:JJ) (wish:Int) (ok:Bool) (i j:Int):Int:=if ok=true then (match YC r p e t i j with|some w=>KG w wish|none=>-1000000) else -1000000
def filK (r:XD) (p e:List Half) (t:JJ) (wish:Int) (ok:Bool) (n:Nat):List Int:=(List.range n).map λ(k:Nat)=>filC r p e t wish ok ((k % t.nx.toNat:Nat):Int) ((k / t.nx.toNat:Nat):Int)
theorem filK_len (r:XD) (p e:List Half) (t:JJ) (wish:Int) (ok:Bool) (n:Nat):(filK r p e t wish ok n).length=n:=by unfold filK;rw [List.length_map,List.length_range]
theorem filK_next (r:XD) (p e:List Half) (t:JJ) (wish:Int) (ok:Bool) (n:Nat):filK r p e t wish ok (n+1)=filK r p e t wish ok n++[filC r p e t wish ok ((n % t.nx.toNat:Nat):Int) ((n / t.nx.toNat:Nat):Int)]:=by
 unfold filK;rw [List.range_succ,List.map_append];rfl
theorem filK_row (r:XD) (p e:List Half) (t:JJ) (wish:Int) (ok:Bool) {i j:Nat} (h:i<t.nx.toNat):filK r p e t wish ok (j*t.nx.toNat+i+1)=filK r p e t wish ok (j*t.nx.toNat+i)++[filC r p e t wish ok (i:Int) (j:Int)]:=by
 rw [filK_next];have e1:(j*t.nx.toNat+i) % t.nx.toNat=i:=by rw [Nat.mul_comm,Nat.mul_add_mod,Nat.mod_eq_of_lt h]
 have e2:(j*t.nx.toNat+i) / t.nx.toNat=j:=by rw [Nat.mul_comm,Nat.mul_add_div Oz,Nat.div_eq_of_lt h,Nat.add_zero]
 rw [e1,e2]
theorem wh_gcd (x y:Int):Xn [x,y,1]=1:=by
 obtain ⟨_,_,h⟩:=@gcdAll_dvd x y 1;have:=Int.natAbs_dvd_natAbs.2 h;simp at this;exact this
theorem wh_ok {x y:Int} (hx : -1000<=x/\x<=1000) (hy : -1000<=y/\y<=1000):Xo ⟨x,y,1⟩=true:=by
 unfold Xo;rw [wh_gcd];simp [ZT];omega
theorem cel_cnr {t:JJ} {i j:Int} (h1:Yw t=true) (h2:cellB t i j=true):CellB t i j/\∀ s∈Xg t i j,Xo s=true/\s.d=1:=by
 have hb:=cellB_bd h1 h2;refine ⟨hb, ?_⟩;obtain ⟨g1,g2,g3,g4,g5,_,g7,g8⟩:=Kg.1 h1;simp only [cellB,Bool.and_eq_true,decide_eq_true_eq] at h2;have m1:(i+1)*t.step<=t.nx*t.step:=Int.mul_le_mul_of_nonneg_right Oz Oz;have m2:(j+1)*t.step<=t.ny*t.step:=Int.mul_le_mul_of_nonneg_right Oz Oz;rw [Int.add_mul,Int.one_mul] at m1 m2;have b1:=hb.is;have b2:=hb.js;intro s hs;simp only [Xg,List.mem_cons,List.not_mem_nil,or_false] at hs;rcases hs with rfl|rfl|rfl|rfl<;>exact ⟨wh_ok ⟨Oz,Oz⟩ ⟨Oz,Oz⟩,rfl⟩
theorem rob_parts2 {r:XD} {p:List Half} (h:Yh r p=true):XJ r=true/\Xc p=true:=by
 simp only [Yh,rpOk,Bool.and_eq_true] at h;exact ⟨h.1.2.1.1,h.1.2.1.2⟩
theorem filC_off {r:XD} {p e:List Half} {t:JJ} {wish:Int} {i j:Int} {ok:Bool} (h:ok=false):filC r p e t wish ok i j = -1000000:=by unfold filC;rw [if_neg (by rw [h];simp)]
theorem filC_none {r:XD} {p e:List Half} {t:JJ} {wish:Int} {i j:Int} {ok:Bool} (h:(YC r p e t i j).isSome=false):filC r p e t wish ok i j = -1000000:=by
 unfold filC;split
 ·cases q:YC r p e t i j with
  | none=>rfl
  | some v=>rw [q] at h;cases h
 ·rfl
theorem filC_some {r:XD} {p e:List Half} {t:JJ} {wish:Int} {i j:Int} {ok:Bool} (h0:ok=true) (h:(YC r p e t i j).isSome=true):filC r p e t wish ok i j=KG ((YC r p e t i j).getD Xu) wish:=by
 unfold filC;rw [if_pos h0];cases q:YC r p e t i j with
 | none=>rw [q] at h;cases h
 | some v=>rfl
def tab0:JJ:=⟨0,0,0,0,0,[]⟩
def KX (r:XD) (p:List Half) (t:JJ) (wish:Int):Bool:=ZT wish (-1000) 1000&&Yw t&&XJ r&&Xc p
def Yy (r:XD) (p:List Half) (t:JJ) (wish:Int):JJ:=if KX r p t wish=true then ⟨t.x0,t.y0,t.step,t.nx,t.ny,filK r p (Jm r p) t wish (Yh r p) (t.nx.toNat*t.ny.toNat)⟩ else tab0
theorem fil_no {r:XD} {p:List Half} {t:JJ} {wish:Int} (h:KX r p t wish=false):Yy r p t wish=tab0:=by unfold Yy;rw [if_neg (by rw [h];simp)]
theorem fil_yes {r:XD} {p:List Half} {t:JJ} {wish:Int} (h:KX r p t wish=true):Yy r p t wish=⟨t.x0,t.y0,t.step,t.nx,t.ny,filK r p (Jm r p) t wish (Yh r p) (t.nx.toNat*t.ny.toNat)⟩:=by unfold Yy;rw [if_pos h]
theorem grid_n {t:JJ} (h:Yw t=true):t.nx.toNat*t.ny.toNat<=400/\((t.nx.toNat*t.ny.toNat:Nat):Int)=t.nx*t.ny:=by
 obtain ⟨_,_,_,g4,g5,g6,_⟩:=Kg.1 h;have e:((t.nx.toNat*t.ny.toNat:Nat):Int)=t.nx*t.ny:=by
  rw [Int.natCast_mul,Int.toNat_of_nonneg Oz,Int.toNat_of_nonneg Oz]
 exact ⟨Oz,e⟩
theorem fil_le (r:XD) (p:List Half) (t:JJ) (wish:Int):(Yy r p t wish).cells.length<=400:=by
 unfold Yy;split
 ·rename_i h
  unfold KX at h;simp only [Bool.and_eq_true] at h;rw [filK_len];exact (grid_n h.1.1.2).1
 ·exact Nat.zero_le _
end Go.Proofs.YtbekjpkcicjcgaaGreat
