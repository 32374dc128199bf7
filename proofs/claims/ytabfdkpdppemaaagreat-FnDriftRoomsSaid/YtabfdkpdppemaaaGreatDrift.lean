/-
 Rooms whose limits are narrowed by a drift: of the program and of the reference.
 Conditions: the slices hold at most 2^20 elements.
-/
import Derived.Test.YtabfdkpdppemaaaGreatMak
namespace Go.Proofs.YtabfdkpdppemaaaGreat
open Go.RowKit
theorem boxHs_rf {x y:Int} (hx:1<=x/\x<=100) (hy:1<=y/\y<=100):Jb (YK x y)=true/\rfR (YK x y)=Yw x y:=by
 have h1:(YK x y).all Xn=true:=List.all_eq_true.2 (JU hx hy);have h2:Jb (YK x y)=true:=by
  unfold Jb;rw [h1,(box_meet x y).1];rfl
 refine ⟨h2, ?_⟩;unfold rfR;rw [if_pos h2];rfl
set_option maxRecDepth 100000 in
set_option maxHeartbeats 4000000 in
theorem sBox_c (x y:Int) (w:World) (hx:1<=x/\x<=100) (hy:1<=y/\y<=100) :
 Calls Tryz.prog 180 #[.int .i64 (-x),.int .i64 (-y),.int .i64 x,.int .i64 y] w λ e w'=>∃ v,e=.returned (.tuple #[.agg #[v],.bool true])/\XI 174 3 Xh w' w.heap.size v (Yw x y)/\Below w.heap.size w w':=by
 have hok:=JU hx hy;have hrf:=boxHs_rf hx hy;have H0:Xr (w.alloc (.cells #[.slice none 0 0] 26)) w.heap.size 26 [.slice none 0 0]:=Xr.new w [.slice none 0 0] 26;have b0:Below w.heap.size w (w.alloc (.cells #[.slice none 0 0] 26)):=Xc bR _;have z0:w.heap.size<(w.alloc (.cells #[.slice none 0 0] 26)).heap.size:=by simp
 generalize hW:w.alloc (.cells #[.slice none 0 0] 26)=W at *;have hW':=Lib.hid hW;clear hW;have SB:Sl 3 Xh (W.alloc (.cells #[.int .i64 1,.int .i64 0,.int .i64 x,.int .i64 0,.int .i64 1,.int .i64 y,.int .i64 (-1),.int .i64 0,.int .i64 x,.int .i64 0,.int .i64 (-1),.int .i64 y] 174)) (some ⟨W.heap.size,0,none⟩) (YK x y):=K9 Xu W (YK x y) #[.int .i64 1,.int .i64 0,.int .i64 x,.int .i64 0,.int .i64 1,.int .i64 y,.int .i64 (-1),.int .i64 0,.int .i64 x,.int .i64 0,.int .i64 (-1),.int .i64 y] rfl rfl;have b1:=Xc b0 (.cells #[.int .i64 1,.int .i64 0,.int .i64 x,.int .i64 0,.int .i64 1,.int .i64 y,.int .i64 (-1),.int .i64 0,.int .i64 x,.int .i64 0,.int .i64 (-1),.int .i64 y] 174);have R1:=H0.alloc (.cells #[.int .i64 1,.int .i64 0,.int .i64 x,.int .i64 0,.int .i64 1,.int .i64 y,.int .i64 (-1),.int .i64 0,.int .i64 x,.int .i64 0,.int .i64 (-1),.int .i64 y] 174);have k1:=sMake_c (some ⟨W.heap.size,0,none⟩) (YK x y) 4 _ (by simp [YK]) hok SB (λ e=>by cases e);change Calls _ _ _ _ λ e w'=>∃ v,e=.returned (.agg #[v])/\XI _ 3 Xh w' _ v (Yw x y)/\_ at k1
 have e1:=Kr (-x) (-1000) 1000 true (XY.2 ⟨by omega,by omega⟩);have e2:=Kr x (-x+1) 1000 true (XY.2 ⟨by omega,by omega⟩);have e3:=Kr (-y) (-1000) 1000 true (XY.2 ⟨by omega,by omega⟩);have e4:=Kr y (-y+1) 1000 true (XY.2 ⟨by omega,by omega⟩);clear hok hrf;go_enter Tryz.func180,Tryz.ntmps180
 go_upto_region 1 with fail
 rw [hW'.out];clear hW';go_wp2_with (fail)
 refine (e1 _).mono ?_;rintro e w' ⟨rfl,rfl⟩;go_wp2_with (fail)
 refine (e2 _).mono ?_;rintro e w' ⟨rfl,rfl⟩;go_wp2_with (fail)
 refine (e3 _).mono ?_;rintro e w' ⟨rfl,rfl⟩;go_wp2_with (fail)
 refine (e4 _).mono ?_;rintro e w' ⟨rfl,rfl⟩;go_wp2_with (fail)
 refine k1.mono ?_;rintro e w3 ⟨v,rfl,N3,hb3⟩;obtain ⟨Av,cv,rfl,o3⟩:=N3;have N3:XI 174 3 Xh w3 (W.alloc (.cells #[.int .i64 1,.int .i64 0,.int .i64 x,.int .i64 0,.int .i64 1,.int .i64 y,.int .i64 (-1),.int .i64 0,.int .i64 x,.int .i64 0,.int .i64 (-1),.int .i64 y] 174)).heap.size (.slice Av (Yw x y).length cv) (Yw x y):=⟨Av,cv,rfl,o3⟩;have R3:=(R1.below hb3).has;have b3:=Xf b1 hb3;have z3:w.heap.size<w3.heap.size:=R3.1;clear o3 k1 R1 b1 hb3 H0 SB;obtain ⟨cR3_0,fR3_0⟩:=R3.2 0 _ rfl;go_wp2
 refine bodyPost_ret (v:=.tuple #[.agg #[.slice Av (Yw x y).length cv],.bool true]) (by simp [results,Tryz.results180,go_sem, *]) rfl ⟨.slice Av (Yw x y).length cv,rfl, ?_,Yt b3 (by simp only;omega) _⟩;exact (N3.lowC (q:=⟨w.heap.size,0,none⟩) (by simp only [World.size_alloc];omega) [.slice Av (Yw x y).length cv]).mono (base':=w.heap.size) (by simp only [World.size_alloc];omega)
structure RoomR (r:XH):Prop where
 noise:Xl r.noise=true
 nne:r.noise≠[]
 limits:Xl r.limits=true
 lne:r.limits≠[]
theorem roomR {r:XH} (h:XT r=true):RoomR r:=by
 simp only [XT,Bool.and_eq_true] at h;obtain ⟨⟨⟨⟨_,h1⟩,h2⟩,h3⟩,h4⟩:=h;refine ⟨h3,λ e=>?_,h4,λ e=>?_⟩
 ·rw [e] at h1;cases h1
 ·rw [e] at h2;cases h2
theorem ne_of_inner {hs:List Half} (hok:∀ h∈hs,Xn h=true) {x y d:Int} (hd:0<d) (hst:∀ f∈Yh++hs,f.a*x+f.b*y<f.c*d):Xx (Xp hs)≠[]:=by
 have gd:=ZT hok;have c:=YP (hs:=Yh++hs) (λ f hf=>(KE (Zp hok f hf)).n);have hst':∀ f∈Xp hs,0<J7 x y d f:=by
  intro f hf;have:=hst f (c.mem f hf);unfold J7;omega
 obtain ⟨e,he,hedge⟩:=edge_exists gd hd hst';have hv:¬ voidB (Xp hs)=true:=λ h=>nvoid_of gd hst' hd ((K6 gd).1 h);rw [meetI_nvoid hv];intro h0;have:e∈(Xp hs).filter (ZZ (Xp hs)):=List.mem_filter.2 ⟨he,(JP gd (gd.nz e he)).2 hedge⟩;rw [h0] at this;cases this
theorem wgcd (x y:Int):Xk [x,y,1]=1:=by
 obtain ⟨_,_,h⟩:=@JO x y 1;have:=Int.natAbs_dvd_natAbs.2 h;simp at this;exact this
theorem wspot_ok {x y:Int} (hx : -1000<=x/\x<=1000) (hy : -1000<=y/\y<=1000):XA ⟨x,y,1⟩=true:=by
 unfold XA;rw [wgcd];simp [ZH];omega
def boxS (x y dx dy:Int):List Xz:=[⟨x + -dx,y + -dy,1⟩,⟨x+dx,y + -dy,1⟩,⟨x+dx,y+dy,1⟩,⟨x + -dx,y+dy,1⟩]
end Go.Proofs.YtabfdkpdppemaaaGreat
