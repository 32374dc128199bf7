/-
 What stays where the cursor alone changes: slices, boxes, rooms.
 Conditions: none.
-/
import Derived.Deep.RegionHeld3
import Derived.Deep.DeepMust
import Derived.Deep.DeepCutAuto
import Derived.Test.YtbekjpkcicjcgabGreatDrk
namespace Go.Proofs.YtbekjpkcicjcgabGreat
open Go.RowKit
theorem Kp.onlyG {w w':World} {g:Nat} (h:Kp [g] w w'):KR w w' g:=Kp.only (L:=[⟨some ⟨g,0,none⟩,0⟩]) h
theorem KR.kpG {w w':World} {g:Nat} (h:KR w w' g):Kp [g] w w':=X9.kp h
theorem XI.farK {α:Type} {T sz base g T':Nat} {enc:α->List Value} {w w':World} {v:Value} {xs:List α} {vs:List Value} (h:XI T sz enc w base v xs) (hc:Xv w g T' vs) (hne:T≠T') (k:Kp [g] w w'):XI T sz enc w' base v xs:=h.farG hc hne k.onlyG
theorem Kf {T base g g' T':Nat} {w w':World} {vs vs':List Value} (h:Xv w g' T vs/\base<=g') (hc:Xv w g T' vs') (hne:T≠T') (k:Kp [g] w w'):Xv w' g' T vs/\base<=g' :=
 ⟨h.1.kp k (λ e=>Xv.ne hc h.1 (λ e=>hne e.symm) (List.mem_singleton.1 e)),h.2⟩
section
variable {W w w':World} {a:Act} {s T T' g g':Nat} {z vs':List Value} {b:Bool} {C:World->List Value->Prop}
theorem Xv.farK {vs:List Value} (h:Xv w g T vs) (hc:Xv w g' T' vs') (hne:T≠T') (k:Kp [g'] w w'):Xv w' g T vs:=h.kp k (λ e=>Xv.ne hc h (λ e=>hne e.symm) (List.mem_singleton.1 e))
theorem Ys.farK (h:Ys W a w s T z b C) (hc:Xv w g' T' vs') (hT:T≠T') (k:Kp [g'] w w') (hC:∀ vs,C w vs->C w' vs):Ys W a w' s T z b C:=by
 obtain ⟨g,e,hg2,y,n⟩:=h;exact ⟨g,e,hg2,λ h=>(y h).farK hc hT k,λ h=>by obtain ⟨vs,h1,h2⟩:=n h;exact ⟨vs,h1.farK hc hT k,hC vs h2⟩⟩
theorem ZB.farK (h:ZB w g T z b C) (hc:Xv w g' T' vs') (hT:T≠T') (k:Kp [g'] w w') (hC:∀ vs,C w vs->C w' vs):ZB w' g T z b C :=
 ⟨λ q=>(h.1 q).farK hc hT k,λ q=>by obtain ⟨vs,h1,h2⟩:=h.2 q;exact ⟨vs,h1.farK hc hT k,hC vs h2⟩⟩
end
theorem Sl.kpG {α:Type} {sz:Nat} {enc:α->List Value} {w w':World} {A:Option Addr} {xs:List α} {g:Nat} (h:Sl sz enc w A xs) (k:Kp [g] w w') (ha:∀ b off,A=some ⟨b,off,none⟩->0<xs.length->b≠g):Sl sz enc w' A xs:=h.farG k.onlyG ha
theorem ZH {b:Bool} (h:b=true):b.toNat=1:=by rw [h];rfl
theorem Kz {b:Bool} (h:b=false):b.toNat=0:=by rw [h];rfl
section
variable {w w':World} {base:Nat} {x:XK} {a:Yq}
theorem YU.farK {g T':Nat} {vs:List Value} (h:YU w base x a) (hc:Xv w g T' vs) (h1:3≠T') (h2:85≠T') (k:Kp [g] w w'):YU w' base x a:=⟨h.map.farK hc h1 k,h.noise.farK hc h2 k,h.limits.farK hc h2 k⟩
theorem YU.kpT {M:List Nat} (h:YU w base x a) (k:Kp M w w') (hM:∀ m∈M,m<base):YU w' base x a :=
 ⟨h.map.kp k (hi:=w.heap.size) (λ p hp=>(h.map.blk p hp).2) Xs (λ m hm=>.inl (hM m hm)),h.noise.kp k (hi:=w.heap.size) (λ p hp=>(h.noise.blk p hp).2) Xs (λ m hm=>.inl (hM m hm)),h.limits.kp k (hi:=w.heap.size) (λ p hp=>(h.limits.blk p hp).2) Xs (λ m hm=>.inl (hM m hm))⟩
end
theorem boxHs_rf {x y:Int} (hx:1<=x/\x<=100) (hy:1<=y/\y<=100):JB (Zz x y)=true/\rfR (Zz x y)=K3 x y:=by
 have h1:(Zz x y).all Xq=true:=List.all_eq_true.2 (boxHs_ok hx hy);have h2:JB (Zz x y)=true:=by
  unfold JB;rw [h1,(box_meet x y).1];rfl
 refine ⟨h2, ?_⟩;unfold rfR;rw [if_pos h2];rfl
set_option maxRecDepth 100000 in
set_option maxHeartbeats 4000000 in
theorem sBox_c (x y:Int) (w:World) (hx:1<=x/\x<=100) (hy:1<=y/\y<=100) :
 Calls Tryz.prog 71 #[.int .i64 (-x),.int .i64 (-y),.int .i64 x,.int .i64 y] w λ e w'=>∃ v,e=.returned (.tuple #[.agg #[v],.bool true])/\XI 85 3 Xe w' w.heap.size v (K3 x y)/\Below w.heap.size w w':=by
 have hok:=boxHs_ok hx hy;have hrf:=boxHs_rf hx hy;have H0:Xv (w.alloc (.cells #[.slice none 0 0] 26)) w.heap.size 26 [.slice none 0 0]:=Xv.new w [.slice none 0 0] 26;have b0:Below w.heap.size w (w.alloc (.cells #[.slice none 0 0] 26)):=Xa bR _;have z0:w.heap.size<(w.alloc (.cells #[.slice none 0 0] 26)).heap.size:=by simp
 generalize hW:w.alloc (.cells #[.slice none 0 0] 26)=W at *;have hW':=Lib.hid hW;clear hW;have SB:Sl 3 Xe (W.alloc (.cells #[.int .i64 1,.int .i64 0,.int .i64 x,.int .i64 0,.int .i64 1,.int .i64 y,.int .i64 (-1),.int .i64 0,.int .i64 x,.int .i64 0,.int .i64 (-1),.int .i64 y] 85)) (some ⟨W.heap.size,0,none⟩) (Zz x y):=Jy Xu W (Zz x y) #[.int .i64 1,.int .i64 0,.int .i64 x,.int .i64 0,.int .i64 1,.int .i64 y,.int .i64 (-1),.int .i64 0,.int .i64 x,.int .i64 0,.int .i64 (-1),.int .i64 y] rfl rfl;have b1:=Xa b0 (.cells #[.int .i64 1,.int .i64 0,.int .i64 x,.int .i64 0,.int .i64 1,.int .i64 y,.int .i64 (-1),.int .i64 0,.int .i64 x,.int .i64 0,.int .i64 (-1),.int .i64 y] 85);have R1:=H0.alloc (.cells #[.int .i64 1,.int .i64 0,.int .i64 x,.int .i64 0,.int .i64 1,.int .i64 y,.int .i64 (-1),.int .i64 0,.int .i64 x,.int .i64 0,.int .i64 (-1),.int .i64 y] 85);have k1:=sMake_c (some ⟨W.heap.size,0,none⟩) (Zz x y) 4 _ (by simp [Zz]) hok SB (λ e=>by cases e);change Calls _ _ _ _ λ e w'=>∃ v,e=.returned (.agg #[v])/\XI _ 3 Xe w' _ v (K3 x y)/\_ at k1
 have e1:=ZW (-x) (-1000) 1000 true (YQ.2 ⟨by omega,by omega⟩);have e2:=ZW x (-x+1) 1000 true (YQ.2 ⟨by omega,by omega⟩);have e3:=ZW (-y) (-1000) 1000 true (YQ.2 ⟨by omega,by omega⟩);have e4:=ZW y (-y+1) 1000 true (YQ.2 ⟨by omega,by omega⟩);clear hok hrf;go_enter Tryz.func71,Tryz.ntmps71
 go_upto_region 1 with fail
 rw [hW'.out];clear hW';go_wp2_with (fail)
 refine (e1 _).mono ?_;rintro e w' ⟨rfl,rfl⟩;go_wp2_with (fail)
 refine (e2 _).mono ?_;rintro e w' ⟨rfl,rfl⟩;go_wp2_with (fail)
 refine (e3 _).mono ?_;rintro e w' ⟨rfl,rfl⟩;go_wp2_with (fail)
 refine (e4 _).mono ?_;rintro e w' ⟨rfl,rfl⟩;go_wp2_with (fail)
 refine k1.mono ?_;rintro e w3 ⟨v,rfl,N3,hb3⟩;obtain ⟨Av,cv,rfl,o3⟩:=N3;have N3:XI 85 3 Xe w3 (W.alloc (.cells #[.int .i64 1,.int .i64 0,.int .i64 x,.int .i64 0,.int .i64 1,.int .i64 y,.int .i64 (-1),.int .i64 0,.int .i64 x,.int .i64 0,.int .i64 (-1),.int .i64 y] 85)).heap.size (.slice Av (K3 x y).length cv) (K3 x y):=⟨Av,cv,rfl,o3⟩;have R3:=(R1.below hb3).has;have b3:=Xg b1 hb3;have z3:w.heap.size<w3.heap.size:=R3.1;clear o3 k1 R1 b1 hb3 H0 SB;obtain ⟨cR3_0,fR3_0⟩:=R3.2 0 _ rfl;go_wp2
 refine bodyPost_ret (v:=.tuple #[.agg #[.slice Av (K3 x y).length cv],.bool true]) (by simp [results,Tryz.results71,go_sem, *]) rfl ⟨.slice Av (K3 x y).length cv,rfl, ?_,YV b3 (by simp only;omega) _⟩;exact (N3.lowC (q:=⟨w.heap.size,0,none⟩) (by simp only [World.size_alloc];omega) [.slice Av (K3 x y).length cv]).mono (base':=w.heap.size) (by simp only [World.size_alloc];omega)
end Go.Proofs.YtbekjpkcicjcgabGreat
