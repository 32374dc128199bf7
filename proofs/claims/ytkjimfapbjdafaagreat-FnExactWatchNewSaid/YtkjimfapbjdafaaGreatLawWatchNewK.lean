/-
 What the program says of FnExactWatchNew, by the kernel.
 Conditions: none.
-/
import Derived.JoinedOf
import Derived.Test.YtkjimfapbjdafaaGreatGrAQc
import Derived.Test.YtkjimfapbjdafaaGreatGrOQt
import Derived.Test.YtkjimfapbjdafaaGreatGrPQn
import Derived.Test.YtkjimfapbjdafaaGreatGrPQo
set_option maxHeartbeats 2000000
set_option maxRecDepth 100000
namespace Go.Proofs.YtkjimfapbjdafaaGreat
open Go.RowKit
theorem j3_WatchNew:(Rows.fnExactWatchNewRow.recurses == Tryz.prog.recurses 5)=true:=by kernel_rfl
theorem j4_WatchNew:(Rows.fnExactWatchNewRow.named == Tryz.prog.varsNamed 5)=true:=by kernel_rfl
theorem j1_WatchNew:(Rows.fnExactWatchNewRow.inPlace == Tryz.prog.inPlace 5)=true:=by kernel_rfl
theorem j2_WatchNew:(Rows.fnExactWatchNewRow.unfollowed == Tryz.prog.unfollowed 5)=true:=by kernel_rfl
def watch0:Jf:=⟨⟨[],0,0,0,0,0,[],[]⟩,[],[]⟩
def sasF:Value->List Nat
 | .slice (some p) _ _=>[p.block]
 | _=>[]
def sas:Value->List Nat
 | .agg xs=>xs.toList.flatMap sasF
 | v=>sasF v
def ApV (u v:Value):Prop:=∀ p∈sas u,∀ q∈sas v,p≠q
theorem ApV.symm {u v:Value} (h:ApV u v):ApV v u:=λ p hp q hq e=>h q hq p hp e.symm
theorem Yy.nil (w:World) (base:Nat):Yy w base watch0 ⟨⟨⟨none,0⟩,⟨none,0⟩,⟨none,0⟩⟩,⟨none,0⟩,⟨none,0⟩⟩:=by
 refine ⟨⟨XI.nilN _ _ _ _ _,⟨XI.nilN _ _ _ _ _⟩,⟨XI.nilN _ _ _ _ _⟩, ?_⟩,⟨XI.nilN _ _ _ _ _⟩,XI.nilN _ _ _ _ _, ?_⟩ <;>
 ·simp only [List.pairwise_cons,List.mem_cons,List.not_mem_nil,or_false,forall_eq_or_imp,forall_eq,false_implies,implies_true,List.Pairwise.nil,and_true];simp [JX]
theorem heldRoom_c (x:X3) (a:YO) (K:Int) (w:World) (hn:Xs x<=1048576) (hK:0<=K) (hK2:K<=1000000) (hs:RoomMk w x a K) :
 Calls Tryz.prog 104 #[XN x a,.int .i64 K] w λ e w'=>e=.returned (.int .i64 (K+x.map.length+x.noise.length*3+x.limits.length*3))/\Below w.heap.size w w':=by
 obtain ⟨map,div,bx,by_,low,high,noise,limits⟩:=x;simp only [Xs] at hn;obtain ⟨s1,s2,s3⟩:=hs;simp only at s1 s2 s3 ⊢;have c1:=λ W h=>heldIntS_c a.map.A map.length a.map.c K W (by omega) hK (by omega) h;have c2:=λ W h=>heldRegion_c noise.length a.noise (K+map.length) W (by omega) (by omega) (by omega) h;have c3:=λ W h=>heldRegion_c limits.length a.limits (K+map.length+noise.length*3) W (by omega) (by omega) (by omega) h;have n1:¬ (K+(map.length:Int)<0):=by omega
 have n2:¬ (K+(map.length:Int)+(noise.length:Int)*3<0):=by omega
 have n3:¬ (K+(map.length:Int)+(noise.length:Int)*3+(limits.length:Int)*3<0):=by omega
 go_enter Tryz.func104,Tryz.ntmps104
 go_wp2_with (fail)
 refine (c1 _ (s1.alloc _)).mono ?_;rintro e w1 ⟨rfl,rfl⟩;go_wp2_with (fail)
 refine (c2 _ (s2.alloc _)).mono ?_;rintro e w2 ⟨rfl,hb2⟩;have r2:=Xz hb2;have l2:w.heap.size<w2.heap.size:=blt hb2 (by simp);go_wp2_with (fail)
 refine (c3 _ ((s3.alloc _).below hb2)).mono ?_;rintro e w3 ⟨rfl,hb3⟩;go_wp2
 go_ret
 refine ⟨rfl, ?_⟩;exact XA
def watchLn (x:Jf):Prop:=List.length x.room.map+List.length x.room.noise+List.length x.room.limits+List.length x.reg<=1048576/\List.length x.log<=1048576
theorem watchLn_of {x:Jf} (h:Zx x<=1048576):watchLn x:=by
 unfold Zx at h;unfold watchLn;omega
theorem eqWatch_t2 (x:Jf) (a b:Jn) (w:World) (hn:watchLn x) (ha:WatchSl w x a) (hb:WatchSl w x b) :
 Calls Tryz.prog 36 #[watchV x a,watchV x b] w λ e w'=>e=.returned (.bool true)/\Below w.heap.size w w':=by
 obtain ⟨hn,hn2⟩:=hn;go_enter Tryz.func36,Tryz.ntmps36
 go_wp2_with (fail)
 refine (eqRoom_t x.room a.room b.room _ (by simp only [Xs];omega) (YH.below ha.room (by exact XA)) (YH.below hb.room (by exact XA))).mono ?_;rintro e w0 ⟨rfl,hb0⟩;have r0:=Xz hb0;have l0:w.heap.size<w0.heap.size:=XO hb0;have m0:w.heap.size+1<w0.heap.size:=XO hb0;go_wp2_with (fail)
 refine (JO x.reg a.reg b.reg _ (by simp only [Xm];omega) (ZS.below ha.reg (by exact XA)) (ZS.below hb.reg (by exact XA))).mono ?_;rintro e w1 ⟨rfl,hb1⟩;have r1:=Xz hb1;have l1:w.heap.size<w1.heap.size:=XO hb1;have m1:w.heap.size+1<w1.heap.size:=XO hb1;go_wp2_with (fail)
 refine (eqIntS_t a.log.A b.log.A x.log _ _ _ (by omega) (Sl.below ha.log (by exact XA)) (Sl.below hb.log (by exact XA))).mono ?_;rintro e w2 ⟨rfl,hb2⟩;have r2:=Xz hb2;have l2:w.heap.size<w2.heap.size:=XO hb2;have m2:w.heap.size+1<w2.heap.size:=XO hb2;go_wp2
 go_ret
 refine ⟨rfl, ?_⟩;exact XA
theorem markWatch_g (x:Jf) (a:Jn) (K:Int) (base:Nat) (w:World) (hn:watchLn x) (hK:0<=K) (hK2:K<=1000000) (hv:Yy w base x a) :
 Calls Tryz.prog 37 #[watchV x a,.int .i64 K] w λ e w'=>e=.returned (.int .i64 (K+x.room.map.length+x.room.noise.length*3+x.room.limits.length*3+x.reg.length*3+x.log.length))/\WatchMk w' x a K/\Zr w w' [a.room.map,a.room.noise,a.room.limits,a.reg,a.log]:=by
 obtain ⟨⟨map,div,bx,by_,low,high,noise,limits⟩,reg,log⟩:=x;unfold watchLn at hn;simp only at hn;obtain ⟨hn,hn2⟩:=hn;obtain ⟨N1,N2,N3,hap⟩:=hv;simp only [List.pairwise_cons,List.mem_cons,List.not_mem_nil,or_false] at hap;obtain ⟨p1,p2,p3,p4,_⟩:=hap;have p14:=p1 _ (.inr (.inr (.inl rfl)));have p15:=p1 _ (.inr (.inr (.inr rfl)));have p24:=p2 _ (.inr (.inl rfl));have p25:=p2 _ (.inr (.inr rfl));have p34:=p3 _ (.inl rfl);have p35:=p3 _ (.inr rfl);have p45:=p4 _ rfl;clear p1 p2 p3 p4;have q14:=p14.symm;have q24:=p24.symm;have q34:=p34.symm;have q15:=p15.symm;have q25:=p25.symm;have q35:=p35.symm;simp only at N1 N2 N3 ⊢;have c1:=λ W h=>markRoom_g ⟨map,div,bx,by_,low,high,noise,limits⟩ a.room K base W (by simp only [Xs];omega) hK (by omega) h;have c2:=λ W h=>J2 reg a.reg (K+map.length+noise.length*3+limits.length*3) base W (by omega) (by omega) (by omega) h;have c3:=λ W h=>markIntS_g a.log.A log.length a.log.c log (K+map.length+noise.length*3+limits.length*3+reg.length*3) base W rfl (by omega) (by omega) (by omega) h;have b0:=Xd (Below.refl w.heap.size w) (.cells #[.slice a.room.map.A map.length a.room.map.c,.int .i64 div,.int .i64 bx,.int .i64 by_,.int .i64 low,.int .i64 high,.slice a.room.noise.A noise.length a.room.noise.c,.slice a.room.limits.A limits.length a.room.limits.c,.slice a.reg.A reg.length a.reg.c,.slice a.log.A log.length a.log.c] 57);have H0:YI (w.alloc (.cells #[.slice a.room.map.A map.length a.room.map.c,.int .i64 div,.int .i64 bx,.int .i64 by_,.int .i64 low,.int .i64 high,.slice a.room.noise.A noise.length a.room.noise.c,.slice a.room.limits.A limits.length a.room.limits.c,.slice a.reg.A reg.length a.reg.c,.slice a.log.A log.length a.log.c] 57)) w.heap.size [.slice a.room.map.A map.length a.room.map.c,.int .i64 div,.int .i64 bx,.int .i64 by_,.int .i64 low,.int .i64 high,.slice a.room.noise.A noise.length a.room.noise.c,.slice a.room.limits.A limits.length a.room.limits.c,.slice a.reg.A reg.length a.reg.c,.slice a.log.A log.length a.log.c]:=YI.new _ _ _;have k1:∀ p,a.room.map.A=some p->p.block≠w.heap.size:=N1.map.blk.ne_ge Xh;have k2:∀ p,a.room.noise.A=some p->p.block≠w.heap.size:=N1.noise.blk.ne_ge Xh;have k3:∀ p,a.room.limits.A=some p->p.block≠w.heap.size:=N1.limits.blk.ne_ge Xh;have k4:∀ p,a.reg.A=some p->p.block≠w.heap.size:=N2.blk.ne_ge Xh;have N1':=N1.below b0 Xh;have N2':=N2.below b0 Xh;have N3':=N3.below b0 Xh;have B0:=Zr.of_below b0 [a.room.map,a.room.noise,a.room.limits,a.reg,a.log];clear N1 N2 N3 b0 hn hn2;go_enter Tryz.func37,Tryz.ntmps37
 go_wp2_with (fail)
 refine (c1 _ N1').mono ?_;rintro e w1 ⟨rfl,M1,o1⟩;have H1:=H0.far o1 (λ b hb=>by simp only [List.mem_cons,List.not_mem_nil,or_false] at hb;rcases hb with rfl|rfl|rfl<;>assumption);have O1:=B0.trans (o1.mono (by intro x hx;simp only [List.mem_cons,List.not_mem_nil,or_false] at hx ⊢;rcases hx with rfl|rfl|rfl<;>simp));have R2:XT w1 base reg a.reg:=⟨N2'.halves.far o1 (λ b hb=>by simp only [List.mem_cons,List.not_mem_nil,or_false] at hb;rcases hb with rfl|rfl|rfl<;>assumption)⟩;have R3:=N3'.far o1 (λ b hb=>by simp only [List.mem_cons,List.not_mem_nil,or_false] at hb;rcases hb with rfl|rfl|rfl<;>assumption);have lH1:=H1.1;clear N1' N2' N3' o1 B0 H0 c1;obtain ⟨cH1_0,fH1_0⟩:=H1.2 0 _ rfl;obtain ⟨cH1_1,fH1_1⟩:=H1.2 1 _ rfl;obtain ⟨cH1_2,fH1_2⟩:=H1.2 2 _ rfl;obtain ⟨cH1_3,fH1_3⟩:=H1.2 3 _ rfl;obtain ⟨cH1_4,fH1_4⟩:=H1.2 4 _ rfl;obtain ⟨cH1_5,fH1_5⟩:=H1.2 5 _ rfl;obtain ⟨cH1_6,fH1_6⟩:=H1.2 6 _ rfl;obtain ⟨cH1_7,fH1_7⟩:=H1.2 7 _ rfl;obtain ⟨cH1_8,fH1_8⟩:=H1.2 8 _ rfl;obtain ⟨cH1_9,fH1_9⟩:=H1.2 9 _ rfl;go_wp2_with (fail)
 refine (c2 _ R2).mono ?_;rintro e w2 ⟨rfl,M2,o2⟩;have H2:=H1.far o2 (all1 k4);have O2:=O1.trans (o2.mono (by intro x hx;simp only [List.mem_singleton] at hx;subst hx;simp));have S1:=M1.map.far (c:=a.room.map.c) o2 (all1 p14);have S2:=M1.noise.far (c:=a.room.noise.c) o2 (all1 p24);have S3:=M1.limits.far (c:=a.room.limits.c) o2 (all1 p34);have R3:=R3.far o2 (all1 p45.symm);have lH2:=H2.1;clear M1 o2 O1 R2 c2 cH1_0 fH1_0 cH1_1 fH1_1 cH1_2 fH1_2 cH1_3 fH1_3 cH1_4 fH1_4 cH1_5 fH1_5 cH1_6 fH1_6 cH1_7 fH1_7 cH1_8 fH1_8 cH1_9 fH1_9 H1 lH1;obtain ⟨cH2_0,fH2_0⟩:=H2.2 0 _ rfl;obtain ⟨cH2_1,fH2_1⟩:=H2.2 1 _ rfl;obtain ⟨cH2_2,fH2_2⟩:=H2.2 2 _ rfl;obtain ⟨cH2_3,fH2_3⟩:=H2.2 3 _ rfl;obtain ⟨cH2_4,fH2_4⟩:=H2.2 4 _ rfl;obtain ⟨cH2_5,fH2_5⟩:=H2.2 5 _ rfl;obtain ⟨cH2_6,fH2_6⟩:=H2.2 6 _ rfl;obtain ⟨cH2_7,fH2_7⟩:=H2.2 7 _ rfl;obtain ⟨cH2_8,fH2_8⟩:=H2.2 8 _ rfl;obtain ⟨cH2_9,fH2_9⟩:=H2.2 9 _ rfl;go_wp2_with (fail)
 refine (c3 _ R3).mono ?_;rintro e w3 ⟨rfl,M3,o3⟩;have O3:=O2.trans (o3.mono (by intro x hx;simp only [List.mem_singleton] at hx;subst hx;simp));have S1:=S1.far (c:=a.room.map.c) o3 (all1 p15);have S2:=S2.far (c:=a.room.noise.c) o3 (all1 p25);have S3:=S3.far (c:=a.room.limits.c) o3 (all1 p35);have S4:=(M2.out XD).far (c:=a.reg.c) o3 (all1 p45);have S5:=M3.out YQ;clear M2 o3 O2 R3 c3 cH2_0 fH2_0 cH2_1 fH2_1 cH2_2 fH2_2 cH2_3 fH2_3 cH2_4 fH2_4 cH2_5 fH2_5 cH2_6 fH2_6 cH2_7 fH2_7 cH2_8 fH2_8 cH2_9 fH2_9 H2 lH2 M3;go_wp2
 go_ret
 exact ⟨rfl,⟨⟨S1,S2,S3⟩,S4,S5⟩,O3⟩
theorem heldWatch_c (x:Jf) (a:Jn) (K:Int) (w:World) (hn:watchLn x) (hK:0<=K) (hK2:K<=1000000) (hs:WatchMk w x a K) :
 Calls Tryz.prog 38 #[watchV x a,.int .i64 K] w λ e w'=>e=.returned (.int .i64 (K+x.room.map.length+x.room.noise.length*3+x.room.limits.length*3+x.reg.length*3+x.log.length))/\Below w.heap.size w w':=by
 obtain ⟨⟨map,div,bx,by_,low,high,noise,limits⟩,reg,log⟩:=x;unfold watchLn at hn;simp only at hn;obtain ⟨hn,hn2⟩:=hn;obtain ⟨s1,s2,s3⟩:=hs;simp only at s1 s2 s3 ⊢;have c1:=λ W h=>heldRoom_c ⟨map,div,bx,by_,low,high,noise,limits⟩ a.room K W (by simp only [Xs];omega) hK (by omega) h;have c2:=λ W h=>heldRegion_c reg.length a.reg (K+map.length+noise.length*3+limits.length*3) W (by omega) (by omega) (by omega) h;have c3:=λ W h=>heldIntS_c a.log.A log.length a.log.c (K+map.length+noise.length*3+limits.length*3+reg.length*3) W (by omega) (by omega) (by omega) h;have n1:¬ (K+(map.length:Int)+(noise.length:Int)*3+(limits.length:Int)*3<0):=by omega
 have n2:¬ (K+(map.length:Int)+(noise.length:Int)*3+(limits.length:Int)*3+(reg.length:Int)*3<0):=by omega
 have n3:¬ (K+(map.length:Int)+(noise.length:Int)*3+(limits.length:Int)*3+(reg.length:Int)*3+(log.length:Int)<0):=by omega
 have b0:=Xd (Below.refl w.heap.size w) (.cells #[.slice a.room.map.A map.length a.room.map.c,.int .i64 div,.int .i64 bx,.int .i64 by_,.int .i64 low,.int .i64 high,.slice a.room.noise.A noise.length a.room.noise.c,.slice a.room.limits.A limits.length a.room.limits.c,.slice a.reg.A reg.length a.reg.c,.slice a.log.A log.length a.log.c] 57);have t1:=s1.below b0;have t2:=s2.below b0;have t3:=s3.below b0;clear s1 s2 s3 b0;go_enter Tryz.func38,Tryz.ntmps38
 go_wp2_with (fail)
 refine (c1 _ t1).mono ?_;rintro e w1 ⟨rfl,hb1⟩;have r1:=Xz hb1;have l1:w.heap.size<w1.heap.size:=blt hb1 (by simp);have t2:=t2.below hb1;have t3:=t3.below hb1;go_wp2_with (fail)
 refine (c2 _ t2).mono ?_;rintro e w2 ⟨rfl,hb2⟩;have r2:=Xz hb2;have l2:w.heap.size<w2.heap.size:=XO hb2;go_wp2_with (fail)
 refine (c3 _ (t3.below hb2)).mono ?_;rintro e w3 ⟨rfl,rfl⟩;go_wp2
 go_ret
 refine ⟨rfl, ?_⟩;exact XA
end Go.Proofs.YtkjimfapbjdafaaGreat
