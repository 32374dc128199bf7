/-
 Records with parameters that are consistent with them, of the reference's verifier.
 Conditions: at most 2^20 bytes.
-/
import Derived.Deep.RegionHeld3
import Derived.Deep.DeepMust
import Derived.Deep.DeepCutAuto
import Derived.Test.YtbekjpkcicjcgabGreatPlant
namespace Go.Proofs.YtbekjpkcicjcgabGreat
open Go.RowKit
theorem XI.farG {α:Type} {T sz base g T':Nat} {enc:α->List Value} {w w':World} {v:Value} {xs:List α} {vs:List Value} (h:XI T sz enc w base v xs) (hc:Xv w g T' vs) (hne:T≠T') (ho:KR w w' g):XI T sz enc w' base v xs:=by
 obtain ⟨A,c,rfl,o⟩:=h;have N:XI T sz enc w base (.slice A xs.length c) xs:=⟨A,c,rfl,o⟩;refine N.far ho (λ b hb p q hp hq=>?_);rw [List.mem_singleton] at hb;subst hb;cases hq;exact N.typ hc hne p hp
def cNext (bs:List Int) (s:Int × Int):Int × (Int × Int) :=
 if s.1<bs.length then ((wrap64 ((bits BinOp.xor IntKind.i64 ((wrap64 (wrap64 (s.2*6364136223846793005)+1442695040888963407)) / 8589934592) ((wrap64 (wrap64 (s.2*6364136223846793005)+1442695040888963407)) / 35184372088832)) % 256+bs.getD s.1.toNat 0)) % 256,s.1+1,wrap64 (wrap64 (s.2*6364136223846793005)+1442695040888963407))
 else ((bits BinOp.xor IntKind.i64 ((wrap64 (wrap64 (s.2*6364136223846793005)+1442695040888963407)) / 8589934592) ((wrap64 (wrap64 (s.2*6364136223846793005)+1442695040888963407)) / 35184372088832)) % 256,s.1,wrap64 (wrap64 (s.2*6364136223846793005)+1442695040888963407))
def cIter (bs:List Int):Nat->Int × Int->Int × Int
 | 0,s=>s
 | n+1,s=>cIter bs n (cNext bs s).2
def cSeq (bs:List Int) (s:Int × Int) (j:Nat):Int:=(cNext bs (cIter bs j s)).1
theorem cNext_bd (bs:List Int) (s:Int × Int):0<=(cNext bs s).1/\(cNext bs s).1<=255:=by
 unfold cNext;split
 ·exact quiet_and
 ·exact quiet_and
def YG (w:World) (g:Nat) (B:Option Addr) (c:Nat) (bs:List Int) (sq:Nat->Int) (k:Nat):Prop:=∃ i h:Int,0<=i/\i<=(bs.length:Int)/\(∀ j,sq (k+j)=cSeq bs (i,h) j)/\Xv w g 112 [.slice B bs.length c,.int .i64 i,.int .i64 h]
theorem YG.of {w:World} {g:Nat} {B:Option Addr} {c:Nat} {bs:List Int} (h:Cur w g B bs.length c):∃ sq,YG w g B c bs sq 0:=by
 obtain ⟨i,h,i0,i1,T⟩:=h;exact ⟨cSeq bs (i,h),i,h,i0,i1,λ j=>by rw [Nat.zero_add],T⟩
section
variable {w w':World} {g:Nat} {B:Option Addr} {c:Nat} {bs:List Int} {sq:Nat->Int} {k:Nat}
theorem YG.bd (h:YG w g B c bs sq k) (j:Nat):0<=sq (k+j)/\sq (k+j)<=255:=by
 obtain ⟨i,h,_,_,hq,_⟩:=h;rw [hq j];exact cNext_bd _ _
theorem YG.has (h:YG w g B c bs sq k):∃ vs,Xv w g 112 vs:=by
 obtain ⟨i,h,_,_,_,T⟩:=h;exact ⟨_,T⟩
theorem YG.lt (h:YG w g B c bs sq k):g<w.heap.size:=by
 obtain ⟨_,T⟩:=h.has;exact T.lt
theorem YG.bel (h:YG w g B c bs sq k) (hb:Below w.heap.size w w'):YG w' g B c bs sq k:=by
 obtain ⟨i,h,a,b,d,T⟩:=h;exact ⟨i,h,a,b,d,T.bel hb⟩
theorem YG.oth {g' T':Nat} {vs':List Value} (h:YG w g B c bs sq k) (hT:Xv w g' T' vs') (hne:T'≠112) (us:List Value) (o:Nat):YG (w.setCells g' o us) g B c bs sq k:=by
 obtain ⟨i,h,a,b,d,T⟩:=h;exact ⟨i,h,a,b,d,T.other (T.ne hT (λ e=>hne e.symm)) us o⟩
theorem YG.kp {M:List Nat} (h:YG w g B c bs sq k) (hk:Kp M w w') (hg:g ∉ M):YG w' g B c bs sq k:=by
 obtain ⟨i,h,a,b,d,T⟩:=h;exact ⟨i,h,a,b,d,T.kp hk hg⟩
theorem YG.shift (h:YG w g B c bs sq k):YG w g B c bs (λ j=>sq (k+j)) 0:=by
 obtain ⟨i,h,a,b,d,T⟩:=h;exact ⟨i,h,a,b,λ j=>by rw [Nat.zero_add];exact d j,T⟩
end
structure DrawR (r:XK):Prop where
 ok:XG r=true
 bx:1<=r.bx/\r.bx<=3
 by_ : -1<=r.by_/\r.by_<=2
 low : -14<=r.low/\r.low<=-3
 high:3<=r.high/\r.high<=14
theorem boxR_mem {x y:Int} (hx:1<=x/\x<=100) (hy:1<=y/\y<=100) {f:Half} (hf:f∈K3 x y):f∈Yj++Zz x y:=by
 have hok:=boxHs_ok hx hy;have gd:=Zj hok;have c:=YI (hs:=Yj++Zz x y) (λ f hf=>(KE (Ze hok f hf)).n);exact c.mem f (Zw gd hf).1
theorem boxR_pos {x y:Int} (hx:1<=x/\x<=100) (hy:1<=y/\y<=100) {f:Half} (hf:f∈Yj++Zz x y):0<f.c:=by
 simp only [Yj,Zz,List.cons_append,List.nil_append,List.mem_cons,List.not_mem_nil,or_false] at hf;rcases hf with rfl|rfl|rfl|rfl|rfl|rfl|rfl|rfl<;>simp only<;>omega
def cutR (x y c:Int):List Half:=Yk (Xk (K3 x y++[⟨1,1,c⟩]))
theorem cut_ok {x y c:Int} (hx:1<=x/\x<=100) (hy:1<=y/\y<=100) (hc:1<=c/\c<=1000):(∀ h∈K3 x y++[(⟨1,1,c⟩:Half)],Xq h=true)/\Yw (Xk (K3 x y++[⟨1,1,c⟩]))=true/\Xc (cutR x y c)=true/\cutR x y c≠[]:=by
 have hk:∀ h∈K3 x y++[(⟨1,1,c⟩:Half)],Xq h=true:=by
  intro h hh;rcases List.mem_append.1 hh with h1|h1
  ·exact Z1 (boxR_ok hx hy) h h1
  ·simp only [List.mem_singleton] at h1;subst h1;exact Zm.2 ⟨⟨by simp,by simp⟩,⟨by simp,by simp⟩,⟨by simp only;omega,by simp only;omega⟩,by simp,gcd_unit (.inl rfl)⟩
 have hl:(K3 x y).length<=8:=by
  have h1:=meetI_len (Xk (Zz x y));have h2:=J9 (Zz x y);have h3:(Zz x y).length=4:=rfl;show (Xw (Xk (Zz x y))).length<=8;omega
 have hm:Yw (Xk (K3 x y++[⟨1,1,c⟩]))=true:=by
  refine decide_eq_true ?_;have h1:=meetI_len (Xk (K3 x y++[(⟨1,1,c⟩:Half)]));have h2:=J9 (K3 x y++[(⟨1,1,c⟩:Half)]);rw [List.length_append] at h2;simp only [List.length_cons,List.length_nil] at h2;omega
 have hn:Xw (Xk (K3 x y++[⟨1,1,c⟩]))≠[]:=by
  refine ne_of_inner hk (x:=0) (y:=0) (d:=1) (by omega) (λ f hf=>?_);have h0:0<f.c:=by
   rcases List.mem_append.1 hf with h1|h1
   ·exact boxR_pos hx hy (List.mem_append.2 (.inl h1))
   ·rcases List.mem_append.1 h1 with h2|h2
    ·exact boxR_pos hx hy (boxR_mem hx hy h2)
    ·simp only [List.mem_singleton] at h2;subst h2;simp only;omega
  omega
 refine ⟨hk,hm,regionOk_meetR hk, ?_⟩;unfold cutR Yk;rw [if_pos hm];exact hn
structure DrawN (q a b c bx by_ lo hi:Int):Prop where
 q:2<=q/\q<=10
 a:0<=a/\a<=1
 b:0<=b/\b<=1
 c:0<=c/\c<=1
 bx:1<=bx/\bx<=3
 by_ : -1<=by_/\by_<=2
 lo : -14<=lo/\lo<=-3
 hi:3<=hi/\hi<=14
theorem draw_mk {q a b c bx by_ lo hi:Int} (D:DrawN q a b c bx by_ lo hi) {N L:List Half} (n1:Xc N=true) (n2:N≠[]) (l1:Xc L=true) (l2:L≠[]):DrawR ⟨[q-1+a,b,-c,q-1],q,bx,by_,lo,hi,N,L⟩:=by
 have hq:=D.q;have ha:=D.a;have hb:=D.b;have hc:=D.c;have h1:=D.bx;have h2:=D.by_;have h3:=D.lo;have h4:=D.hi;have hd:det [q-1+a,b,-c,q-1]≠0:=by
  show (q-1+a)*(q-1)-b * -c≠0;have m1:1*1<=(q-1+a)*(q-1):=Int.mul_le_mul (by omega) (by omega) (by omega) (by omega);have m2:0<=b*c:=Int.mul_nonneg hb.1 hc.1;have m3:b * -c = -(b*c):=Int.mul_neg _ _;omega
 refine ⟨?_,h1,h2,h3,h4⟩;unfold XG Ke ZT;simp only [Bool.and_eq_true,List.all_eq_true,List.mem_cons,List.not_mem_nil,or_false,forall_eq_or_imp,forall_eq,YQ,bne_iff_ne,Bool.not_eq_true',decide_eq_false_iff_not,decide_eq_true_eq,List.length_cons,List.length_nil];refine ⟨⟨⟨⟨⟨⟨⟨⟨⟨⟨trivial,by omega⟩,by omega,by omega,by omega,by omega⟩,hd⟩,by omega⟩,by omega⟩,by omega,by omega⟩,λ e=>n2 (List.length_eq_zero_iff.1 e)⟩,λ e=>l2 (List.length_eq_zero_iff.1 e)⟩,n1⟩,l1⟩
end Go.Proofs.YtbekjpkcicjcgabGreat
