/-
 The pieces of a law, and half planes that hold for all states of a region: of the program and of the reference.
 Conditions: valid rooms, regions and half planes.
-/
import Derived.Deep.RegionHeld3
import Derived.Deep.DeepMust
import Derived.Deep.DeepCutAuto
import Derived.Test.YtbekjpkcicjcgabGreatPulS
import Derived.Test.YtbekjpkcicjcgabGreatGrXaQa
set_option maxHeartbeats 3000000
set_option maxRecDepth 100000
namespace Go.Proofs.YtbekjpkcicjcgabGreat
open Go.RowKit
def pieceN (a b c d:Int):Xm:=⟨a.tdiv ((Xh [a,b,c,d]:Nat):Int),b.tdiv ((Xh [a,b,c,d]:Nat):Int),c.tdiv ((Xh [a,b,c,d]:Nat):Int),d.tdiv ((Xh [a,b,c,d]:Nat):Int)⟩
def K9 (a b c d:Int):Xm:=if d<0 then pieceN (-a) (-b) (-c) (-d) else pieceN a b c d
structure PcG (a b c d:Int):Prop where
 g:1<=((Xh [a,b,c,d]:Nat):Int)/\((Xh [a,b,c,d]:Nat):Int)<=10000000000
 fa : -10000000000<=a.tdiv ((Xh [a,b,c,d]:Nat):Int)/\a.tdiv ((Xh [a,b,c,d]:Nat):Int)<=10000000000
 fb : -10000000000<=b.tdiv ((Xh [a,b,c,d]:Nat):Int)/\b.tdiv ((Xh [a,b,c,d]:Nat):Int)<=10000000000
 fc : -10000000000<=c.tdiv ((Xh [a,b,c,d]:Nat):Int)/\c.tdiv ((Xh [a,b,c,d]:Nat):Int)<=10000000000
 fd : -10000000000<=d.tdiv ((Xh [a,b,c,d]:Nat):Int)/\d.tdiv ((Xh [a,b,c,d]:Nat):Int)<=10000000000
theorem pcG {a b c d:Int} (h:PcB a b c d):PcG a b c d:=by
 have h1:=h.fa;have h2:=h.fb;have h3:=h.fc;have h4:=h.fd;have h5:=h.nz;have e:Xh [a,b,c,d]=Nat.gcd (Nat.gcd (Nat.gcd a.natAbs b.natAbs) c.natAbs) d.natAbs:=gcd4 a b c d;have dv:Xh [a,b,c,d] ∣ d.natAbs:=by rw [e];exact Nat.gcd_dvd_right _ _
 have hp:0<Xh [a,b,c,d]:=by rw [e];exact Nat.gcd_pos_of_pos_right _ (by omega)
 have hle:Xh [a,b,c,d]<=10000000000:=Nat.le_trans (Nat.le_of_dvd (by omega) dv) (by omega);have k:=λ(x:Int) (hx : -10000000000<=x/\x<=10000000000)=>tdiv_le x (Xh [a,b,c,d]) 10000000000 (by omega) (by omega);exact ⟨⟨by omega,by omega⟩,k a (by omega),k b (by omega),k c (by omega),k d (by omega)⟩
theorem four_slI {w:World} {g T:Nat} {x y z u:Int} (h:Xv w g T [.int .i64 x,.int .i64 y,.int .i64 z,.int .i64 u]):Sl 1 KX w (some ⟨g,0,none⟩) [x,y,z,u] :=
 (XI.lit (enc:=KX) (xs:=[x,y,z,u]) (base:=0) (T:=T) Zc h (Nat.zero_le _) (by simp)).out Zc
def covB (p:List Half) (o:Option Half):Bool:=o.isSome&&(XD p).all λ s=>!decide (sgn (valS (o.getD Xb) s) > 0)
theorem cov_no {p:List Half} {o:Option Half} (h:o.isSome=false):covB p o=false:=by unfold covB;rw [h];rfl
theorem cov_stop {p:List Half} {o:Option Half} {k:Nat} (h:k<(XD p).length) (hb:decide (sgn (valS (o.getD Xb) ((XD p).getD k sp0)) > 0)=true):covB p o=false:=by
 rw [Jl h] at hb;unfold covB;rw [List.all_eq_false.2 ⟨_,List.getElem_mem h,by rw [hb];decide⟩,Bool.and_false]
theorem cov_next {C:List XW} {g:Half} {k:Nat} (h:k<C.length) (h1:((C.take k).all λ s=>!decide (sgn (valS g s) > 0))=true) (hb:decide (sgn (valS g (C.getD k sp0)) > 0)=false):((C.take (k+1)).all λ s=>!decide (sgn (valS g s) > 0))=true:=by
 rw [Jl h] at hb;rw [List.take_add_one,List.getElem?_eq_getElem h,List.all_append,h1];simp only [Option.toList_some,List.all_cons,List.all_nil,Bool.and_true,Bool.true_and];rw [hb];rfl
theorem cov_yes {p:List Half} {o:Option Half} (h:o.isSome=true) (h1:((XD p).all λ s=>!decide (sgn (valS (o.getD Xb) s) > 0))=true):covB p o=true:=by unfold covB;rw [h,h1];rfl
theorem optH_ok {a b c:Int} (h:(XO a b c).isSome=true):Xq ((XO a b c).getD Xb)=true:=by
 obtain ⟨g,e⟩:=Option.isSome_iff_exists.1 h;rw [e];exact halfOf_ok e
theorem iPiece_c (a b c d:Int) (w:World) (hP:PcB a b c d) :
 Calls Tryz.prog 39 #[.int .i64 a,.int .i64 b,.int .i64 c,.int .i64 d] w λ x w'=>x=.returned (XZ (K9 a b c d))/\Below w.heap.size w w':=by
 have h1:=hP.fa;have h2:=hP.fb;have h3:=hP.fc;have h4:=hP.fd;refine ZY Tryz.func39 rfl (n:=40) Tryz.ntmps39 (by simp) ?_;intro a0 U J ha;have s0:a0.tmps[0]?.getD undef=.int .i64 a:=ha 0 _ rfl;have s1:a0.tmps[1]?.getD undef=.int .i64 b:=ha 1 _ rfl;have s2:a0.tmps[2]?.getD undef=.int .i64 c:=ha 2 _ rfl;have s3:a0.tmps[3]?.getD undef=.int .i64 d:=ha 3 _ rfl;clear ha;have S:=Below.refl w.heap.size w;have V:=Nat.le_refl w.heap.size;refine wp_seq ?_;refine ZD [8] [.pointer (some ⟨w.heap.size,0,none⟩)] [some (.cells [.int .i64 0,.int .i64 0,.int .i64 0,.int .i64 0].toArray 49)] [0] [8] [0] (by kernel_rfl) (by rw [U];decide) (ec ?_ .nil) ?_
 ·intro a w' B hs N Q F;simp [go_sem];rw [hs];exact F
 intro a1 w2 B R hb hO;replace U:=B.size.trans U;replace J:=B.defers.trans J;replace s0:=B.g rfl s0;replace s1:=B.g rfl s1;replace s2:=B.g rfl s2;replace s3:=B.g rfl s3;have s8:a1.tmps[8]?.getD undef=.pointer (some ⟨w.heap.size,0,none⟩):=R 0 (by decide);have b3:Xv w2 w.heap.size 49 [.int .i64 0,.int .i64 0,.int .i64 0,.int .i64 0]:=hO 0 _ rfl;have hG:=b3.lt;replace S:=Xg S hb;have zw2:=Nat.le_trans V hb.size;replace V:=Nat.le_refl w2.heap.size;clear B R hb hO;refine Xl (wp_seq (wp_seq ?_));refine Xf [10,11] [some (.int .i64 d),some (.bool (decide (d<0)))] (X5 2) [10,11] [] (λ _ _ _=>True) ?_ (e2 ?_ ?_ .nil) ?_
 ·exact λ _ _=>trivial
 ·exact Za s3 rfl rfl rfl
 ·exact λ P K I H _ _ F=>X3 rfl (ev (H.d 0 rfl rfl)) rfl rfl rfl (F _ _ H.k rfl trivial)
 intro L a4 w5 W B M R O;replace U:=B.Z U;replace J:=B.E J;replace s0:=B.G s0;replace s1:=B.G s1;replace s2:=B.G s2;replace s3:=B.G s3;replace s8:=B.G s8;have s11:=gS a4 11 (R 1 _ rfl);replace b3:=b3.k0 M;replace V:=Nat.le_trans V M.size;replace S:=M.below0 S;clear B M R W O;refine Xl ?_;rcases Bool.eq_false_or_eq_true (decide (d<0)) with q6|q6
 ·refine wp_cond_true (ev (vb s11 q6)) ?_;have D:Xd [0,1,2,3] (λ L aa I=>(L 8=false->aa.tmps[0]?.getD undef=.int .i64 a)/\(L 9=false->aa.tmps[1]?.getD undef=.int .i64 b)/\(L 10=false->aa.tmps[2]?.getD undef=.int .i64 c)/\(L 11=false->aa.tmps[3]?.getD undef=.int .i64 d)):=by
   intro L aa I w' kk vv hkk hb O;obtain ⟨x0,x1,x2,x3⟩:=O;exact ⟨(λ h=>(Xj (hkk 0 (by simp)) vv).trans (x0 h)),(λ h=>(Xj (hkk 1 (by simp)) vv).trans (x1 h)),(λ h=>(Xj (hkk 2 (by simp)) vv).trans (x2 h)),(λ h=>(Xj (hkk 3 (by simp)) vv).trans (x3 h))⟩
  refine Xz D [12,13,14,15,16,17,18,19,0,1,2,3] [some (.int .i64 a),some (.int .i64 (-a)),some (.int .i64 b),some (.int .i64 (-b)),some (.int .i64 c),some (.int .i64 (-c)),some (.int .i64 d),some (.int .i64 (-d)),some (.int .i64 (-a)),some (.int .i64 (-b)),some (.int .i64 (-c)),some (.int .i64 (-d))] (X5 12) [12,13,14,15,16,17,18,19,0,1,2,3] [] ?_ (e4 ?_ ?_ ?_ ?_ (e4 ?_ ?_ ?_ ?_ (e4 ?_ ?_ ?_ ?_ .nil))) ?_
  ·exact λ _ h=>⟨(λ _=>s0),(λ _=>s1),(λ _=>s2),(λ _=>s3)⟩
  ·intro P K I H _ _ F;obtain ⟨x0,x1,x2,x3⟩:=H.x;exact Xy rfl (ev (x0 (H.t 8 rfl))) (F _ _ H.k rfl (D P K I _ (some 12) _ (by simp) bR H.x))
  ·exact λ P K I H _ _ F=>KT rfl (ev (H.d 0 rfl rfl)) (by omega) (F _ _ H.k rfl (D P K I _ (some 13) _ (by simp) bR H.x))
  ·intro P K I H _ _ F;obtain ⟨x0,x1,x2,x3⟩:=H.x;exact Xy rfl (ev (x1 (H.t 9 rfl))) (F _ _ H.k rfl (D P K I _ (some 14) _ (by simp) bR H.x))
  ·exact λ P K I H _ _ F=>KT rfl (ev (H.d 2 rfl rfl)) (by omega) (F _ _ H.k rfl (D P K I _ (some 15) _ (by simp) bR H.x))
  ·intro P K I H _ _ F;obtain ⟨x0,x1,x2,x3⟩:=H.x;exact Xy rfl (ev (x2 (H.t 10 rfl))) (F _ _ H.k rfl (D P K I _ (some 16) _ (by simp) bR H.x))
  ·exact λ P K I H _ _ F=>KT rfl (ev (H.d 4 rfl rfl)) (by omega) (F _ _ H.k rfl (D P K I _ (some 17) _ (by simp) bR H.x))
  ·intro P K I H _ _ F;obtain ⟨x0,x1,x2,x3⟩:=H.x;exact Xy rfl (ev (x3 (H.t 11 rfl))) (F _ _ H.k rfl (D P K I _ (some 18) _ (by simp) bR H.x))
  ·exact λ P K I H _ _ F=>KT rfl (ev (H.d 6 rfl rfl)) (by omega) (F _ _ H.k rfl (D P K I _ (some 19) _ (by simp) bR H.x))
  ·intro P K I H _ _ F;obtain ⟨x0,x1,x2,x3⟩:=H.x;exact XR rfl (ev (H.d 1 rfl rfl)) (F _ _ H.k rfl ⟨(λ h=>by simp [Yb] at h),(λ h=>(Xj (by decide) _).trans (x1 h)),(λ h=>(Xj (by decide) _).trans (x2 h)),(λ h=>(Xj (by decide) _).trans (x3 h))⟩)
  ·intro P K I H _ _ F;obtain ⟨x0,x1,x2,x3⟩:=H.x;exact XR rfl (ev (H.d 3 rfl rfl)) (F _ _ H.k rfl ⟨(λ h=>(Xj (by decide) _).trans (x0 h)),(λ h=>by simp [Yb] at h),(λ h=>(Xj (by decide) _).trans (x2 h)),(λ h=>(Xj (by decide) _).trans (x3 h))⟩)
  ·intro P K I H _ _ F;obtain ⟨x0,x1,x2,x3⟩:=H.x;exact XR rfl (ev (H.d 5 rfl rfl)) (F _ _ H.k rfl ⟨(λ h=>(Xj (by decide) _).trans (x0 h)),(λ h=>(Xj (by decide) _).trans (x1 h)),(λ h=>by simp [Yb] at h),(λ h=>(Xj (by decide) _).trans (x3 h))⟩)
  ·intro P K I H _ _ F;obtain ⟨x0,x1,x2,x3⟩:=H.x;exact XR rfl (ev (H.d 7 rfl rfl)) (F _ _ H.k rfl ⟨(λ h=>(Xj (by decide) _).trans (x0 h)),(λ h=>(Xj (by decide) _).trans (x1 h)),(λ h=>(Xj (by decide) _).trans (x2 h)),(λ h=>by simp [Yb] at h)⟩)
  intro L a7 w8 W B M R O;obtain ⟨x0,x1,x2,x3⟩:=O;replace U:=B.Z U;replace J:=B.E J;replace s8:=B.G s8;have s0:=gS a7 0 (R 8 _ rfl);have s1:=gS a7 1 (R 9 _ rfl);have s2:=gS a7 2 (R 10 _ rfl);have s3:=gS a7 3 (R 11 _ rfl);replace b3:=b3.k0 M;replace V:=Nat.le_trans V M.size;replace S:=M.below0 S;clear B M R W x0 x1 x2 x3 D s11;refine Xl (wp_seq ?_);have hB0:=hP;obtain ⟨xa,exa⟩:∃ z:Int,z = -a:=⟨_,rfl⟩;rw [<- exa] at s0;obtain ⟨xb,exb⟩:∃ z:Int,z = -b:=⟨_,rfl⟩;rw [<- exb] at s1;obtain ⟨xc,exc⟩:∃ z:Int,z = -c:=⟨_,rfl⟩;rw [<- exc] at s2;obtain ⟨xd,exd⟩:∃ z:Int,z = -d:=⟨_,rfl⟩;rw [<- exd] at s3;have O:PcB xa xb xc xd:=by rw [exa,exb,exc,exd];exact hP.neg
  have hG4:=pcG O;have hx1:=O.fa;have hx2:=O.fb;have hx3:=O.fc;have hx4:=O.fd;have hg4:=hG4.g;have hpm:K9 a b c d=pieceN xa xb xc xd:=by unfold K9;rw [if_pos (Kk q6),exa,exb,exc,exd]
  have D:Xd [24] (λ L aa I=>(L 4=true->(λ I v=>∃ g1,v=.slice (some ⟨g1,0,none⟩) 4 4/\Xv I g1 3 [.int .i64 xa,.int .i64 xb,.int .i64 xc,.int .i64 xd]/\w8.heap.size<=g1) I (aa.tmps[24]?.getD undef))):=by
   intro L aa I w' kk vv hkk hb O;have x0:=O;exact (λ h=>by rw [Xj (hkk 24 (by simp))];obtain ⟨g1',e,f1'⟩:=x0 h;exact ⟨g1',e,⟨f1'.1.bel hb,f1'.2⟩⟩)
  refine Xz D [20,21,22,23,24,25,26,9] [some (.int .i64 xa),some (.int .i64 xb),some (.int .i64 xc),some (.int .i64 xd),none,some (.int .u64 ((Xh [xa,xb,xc,xd]:Nat):Int)),some (.int .i64 ((Xh [xa,xb,xc,xd]:Nat):Int)),some (.int .i64 ((Xh [xa,xb,xc,xd]:Nat):Int))] (X5 8) [20,21,22,23,24,25,26,9] [] ?_ (e4 ?_ ?_ ?_ ?_ (e4 ?_ ?_ ?_ ?_ .nil)) ?_
  ·exact λ _ h=>(λ h=>by cases h)
  ·exact Yx s0 rfl rfl rfl λ _ _ _ _=>D.q rfl
  ·exact Yx s1 rfl rfl rfl λ _ _ _ _=>D.q rfl
  ·exact Yx s2 rfl rfl rfl λ _ _ _ _=>D.q rfl
  ·exact Yx s3 rfl rfl rfl λ _ _ _ _=>D.q rfl
  ·intro P K I H _ _ F;have x0:=H.x;simp [go_sem,(gS K 20 (H.d 0 rfl rfl)),(gS K 21 (H.d 1 rfl rfl)),(gS K 22 (H.d 2 rfl rfl)),(gS K 23 (H.d 3 rfl rfl))];have f1:Xv (I.alloc (.cells #[.int .i64 xa,.int .i64 xb,.int .i64 xc,.int .i64 xd] 3)) I.heap.size 3 [.int .i64 xa,.int .i64 xb,.int .i64 xc,.int .i64 xd]/\w8.heap.size<=I.heap.size:=⟨Xv.new _ _ _,H.k.size⟩;exact F _ _ (H.k.alloc _) trivial (λ _=>by rw [XF (H.f.lt (by rw [U];decide))];exact ⟨_,rfl,f1⟩)
  ·intro P K I H _ _ F;have x0:=H.x;obtain ⟨g1,ee4,f1⟩:=x0 (H.r 4 rfl);simp [go_sem,ee4];refine (Ks (some ⟨g1,0,none⟩) [xa,xb,xc,xd] 4 I (by simp) (by intro n hn;simp only [List.mem_cons,List.not_mem_nil,or_false] at hn;rcases hn with rfl|rfl|rfl|rfl<;>exact ⟨by omega,by omega⟩) (four_slI f1.1)).mono ?_;rintro x wx ⟨rfl,hb⟩;exact (F _ _ (H.k.call hb) rfl (D.b rfl hb H.x))
  ·intro P K I H _ _ F;simp [go_sem,(gS K 25 (H.d 5 rfl rfl))];exact (F _ _ H.k (congrArg (Value.int .i64) (wrp (by omega))) (D.q rfl H.x))
  ·exact Jg 6 rfl rfl rfl rfl λ _ _ _ _=>D.q rfl
  intro L a9 w10 W B M R O;have x0:=O;replace U:=B.Z U;replace J:=B.E J;replace s8:=B.G s8;replace s0:=B.G s0;replace s1:=B.G s1;replace s2:=B.G s2;replace s3:=B.G s3;have s9:=gS a9 9 (R 7 _ rfl);replace b3:=b3.k0 M;replace V:=Nat.le_trans V M.size;replace S:=M.below0 S;clear B M R W x0 D;obtain ⟨gg,egg⟩:∃ z:Int,z=((Xh [xa,xb,xc,xd]:Nat):Int):=⟨_,rfl⟩;rw [<- egg] at s9;have hgg:1<=gg/\gg<=10000000000:=by rw [egg];exact hg4
  have ht0 : -10000000000<=xa.tdiv gg/\xa.tdiv gg<=10000000000:=by rw [egg];exact hG4.fa
  have ht1 : -10000000000<=xb.tdiv gg/\xb.tdiv gg<=10000000000:=by rw [egg];exact hG4.fb
  have ht2 : -10000000000<=xc.tdiv gg/\xc.tdiv gg<=10000000000:=by rw [egg];exact hG4.fc
  have ht3 : -10000000000<=xd.tdiv gg/\xd.tdiv gg<=10000000000:=by rw [egg];exact hG4.fd
  refine Xl (wp_seq ?_);have D:Xd [] (λ L aa I=>ZB I w.heap.size 49 [.int .i64 0,.int .i64 0,.int .i64 0,.int .i64 0] (L 13) (λ _ vs=>vs=[.int .i64 (xa.tdiv gg),.int .i64 (xb.tdiv gg),.int .i64 (xc.tdiv gg),.int .i64 (xd.tdiv gg)])):=by
   intro L aa I w' kk vv hkk hb O;have x0:=O;exact (x0.bel hb (λ _ h=>h))
  refine Xz D [27,28,29,30,31,32,33,34,35,36,37,38,39,0] [some (.int .i64 xa),some (.int .i64 gg),some (.int .i64 (xa.tdiv gg)),some (.int .i64 xb),some (.int .i64 gg),some (.int .i64 (xb.tdiv gg)),some (.int .i64 xc),some (.int .i64 gg),some (.int .i64 (xc.tdiv gg)),some (.int .i64 xd),some (.int .i64 gg),some (.int .i64 (xd.tdiv gg)),some (.agg #[.int .i64 (xa.tdiv gg),.int .i64 (xb.tdiv gg),.int .i64 (xc.tdiv gg),.int .i64 (xd.tdiv gg)]),none] ([[],[],[0,1],[],[],[3,4],[],[],[6,7],[],[],[9,10],[0,1,2,3,4,5,6,7,8,9,10,11],[0,1,2,3,4,5,6,7,8,9,10,11,12]]) [27,28,29,30,31,32,33,34,35,36,37,38,39] [w.heap.size] ?_ (e4 ?_ ?_ ?_ ?_ (e4 ?_ ?_ ?_ ?_ (e4 ?_ ?_ ?_ ?_ (e2 ?_ ?_ .nil)))) ?_
  ·exact λ _ h=>(⟨λ _=>b3.kp h (by simp),(λ h=>by cases h)⟩)
  ·exact Yx s0 rfl rfl rfl λ _ _ _ _ h=>h
  ·exact Yx s9 rfl rfl rfl λ _ _ _ _ h=>h
  ·exact λ P K I H _ _ F=>wp_quo rfl (ev (H.d 0 rfl rfl)) (ev (H.d 1 rfl rfl)) (by omega) (by omega) (F _ _ H.k rfl H.x)
  ·exact Yx s1 rfl rfl rfl λ _ _ _ _ h=>h
  ·exact Yx s9 rfl rfl rfl λ _ _ _ _ h=>h
  ·exact λ P K I H _ _ F=>wp_quo rfl (ev (H.d 3 rfl rfl)) (ev (H.d 4 rfl rfl)) (by omega) (by omega) (F _ _ H.k rfl H.x)
  ·exact Yx s2 rfl rfl rfl λ _ _ _ _ h=>h
  ·exact Yx s9 rfl rfl rfl λ _ _ _ _ h=>h
  ·exact λ P K I H _ _ F=>wp_quo rfl (ev (H.d 6 rfl rfl)) (ev (H.d 7 rfl rfl)) (by omega) (by omega) (F _ _ H.k rfl H.x)
  ·exact Yx s3 rfl rfl rfl λ _ _ _ _ h=>h
  ·exact Yx s9 rfl rfl rfl λ _ _ _ _ h=>h
  ·exact λ P K I H _ _ F=>wp_quo rfl (ev (H.d 9 rfl rfl)) (ev (H.d 10 rfl rfl)) (by omega) (by omega) (F _ _ H.k rfl H.x)
  ·intro P K I H _ _ F;simp [go_sem,(gS K 29 (H.d 2 rfl rfl)),(gS K 32 (H.d 5 rfl rfl)),(gS K 35 (H.d 8 rfl rfl)),(gS K 38 (H.d 11 rfl rfl))];exact (F _ _ H.k rfl H.x)
  ·intro P K I H _ _ F;have x0:=H.x;have X:=x0.1 H.n;simp [go_sem,(gS K 39 (H.d 12 rfl rfl)),H.f.g rfl s8,X.cell,X.frz];exact F undef _ (H.k.store (.inr (by simp)) [.int .i64 (xa.tdiv gg),.int .i64 (xb.tdiv gg),.int .i64 (xc.tdiv gg),.int .i64 (xd.tdiv gg)] 0) trivial (ZB.set X (us:=[.int .i64 (xa.tdiv gg),.int .i64 (xb.tdiv gg),.int .i64 (xc.tdiv gg),.int .i64 (xd.tdiv gg)]) rfl rfl)
  intro L a11 w12 W B M R O;have x0:=O;replace U:=B.Z U;replace J:=B.E J;replace s8:=B.G s8;clear b3;obtain ⟨_,b3,rfl⟩:=x0.2 (W 13 (by decide));replace V:=Nat.le_trans V M.size;replace S:=M.below S S.size (by simp<;>omega);clear B M R W x0 D s0 s1 s2 s3 s9;refine Xl (wp_ret ?_);refine bodyPost_ret (v:=.agg #[.int .i64 (xa.tdiv gg),.int .i64 (xb.tdiv gg),.int .i64 (xc.tdiv gg),.int .i64 (xd.tdiv gg)]) (by simp [results,Tryz.results39,go_sem,s8,b3.cell]) J ?_;exact ⟨by rw [hpm];unfold pieceN;rw [<- egg],S⟩
 ·refine wp_cond_false (ev (vb s11 q6)) ?_;refine wp_skip (Xl (wp_seq ?_));have hB0:=hP;obtain ⟨xa,exa⟩:∃ z:Int,z=a:=⟨_,rfl⟩;rw [<- exa] at s0;obtain ⟨xb,exb⟩:∃ z:Int,z=b:=⟨_,rfl⟩;rw [<- exb] at s1;obtain ⟨xc,exc⟩:∃ z:Int,z=c:=⟨_,rfl⟩;rw [<- exc] at s2;obtain ⟨xd,exd⟩:∃ z:Int,z=d:=⟨_,rfl⟩;rw [<- exd] at s3;have O:PcB xa xb xc xd:=by rw [exa,exb,exc,exd];exact hP
  have hG4:=pcG O;have hx1:=O.fa;have hx2:=O.fb;have hx3:=O.fc;have hx4:=O.fd;have hg4:=hG4.g;have hpm:K9 a b c d=pieceN xa xb xc xd:=by unfold K9;rw [if_neg (XB q6),exa,exb,exc,exd]
  have D:Xd [24] (λ L aa I=>(L 4=true->(λ I v=>∃ g2,v=.slice (some ⟨g2,0,none⟩) 4 4/\Xv I g2 3 [.int .i64 xa,.int .i64 xb,.int .i64 xc,.int .i64 xd]/\w5.heap.size<=g2) I (aa.tmps[24]?.getD undef))):=by
   intro L aa I w' kk vv hkk hb O;have x0:=O;exact (λ h=>by rw [Xj (hkk 24 (by simp))];obtain ⟨g2',e,f2'⟩:=x0 h;exact ⟨g2',e,⟨f2'.1.bel hb,f2'.2⟩⟩)
  refine Xz D [20,21,22,23,24,25,26,9] [some (.int .i64 xa),some (.int .i64 xb),some (.int .i64 xc),some (.int .i64 xd),none,some (.int .u64 ((Xh [xa,xb,xc,xd]:Nat):Int)),some (.int .i64 ((Xh [xa,xb,xc,xd]:Nat):Int)),some (.int .i64 ((Xh [xa,xb,xc,xd]:Nat):Int))] (X5 8) [20,21,22,23,24,25,26,9] [] ?_ (e4 ?_ ?_ ?_ ?_ (e4 ?_ ?_ ?_ ?_ .nil)) ?_
  ·exact λ _ h=>(λ h=>by cases h)
  ·exact Yx s0 rfl rfl rfl λ _ _ _ _=>D.q rfl
  ·exact Yx s1 rfl rfl rfl λ _ _ _ _=>D.q rfl
  ·exact Yx s2 rfl rfl rfl λ _ _ _ _=>D.q rfl
  ·exact Yx s3 rfl rfl rfl λ _ _ _ _=>D.q rfl
  ·intro P K I H _ _ F;have x0:=H.x;simp [go_sem,(gS K 20 (H.d 0 rfl rfl)),(gS K 21 (H.d 1 rfl rfl)),(gS K 22 (H.d 2 rfl rfl)),(gS K 23 (H.d 3 rfl rfl))];have f2:Xv (I.alloc (.cells #[.int .i64 xa,.int .i64 xb,.int .i64 xc,.int .i64 xd] 3)) I.heap.size 3 [.int .i64 xa,.int .i64 xb,.int .i64 xc,.int .i64 xd]/\w5.heap.size<=I.heap.size:=⟨Xv.new _ _ _,H.k.size⟩;exact F _ _ (H.k.alloc _) trivial (λ _=>by rw [XF (H.f.lt (by rw [U];decide))];exact ⟨_,rfl,f2⟩)
  ·intro P K I H _ _ F;have x0:=H.x;obtain ⟨g2,ee4,f2⟩:=x0 (H.r 4 rfl);simp [go_sem,ee4];refine (Ks (some ⟨g2,0,none⟩) [xa,xb,xc,xd] 4 I (by simp) (by intro n hn;simp only [List.mem_cons,List.not_mem_nil,or_false] at hn;rcases hn with rfl|rfl|rfl|rfl<;>exact ⟨by omega,by omega⟩) (four_slI f2.1)).mono ?_;rintro x wx ⟨rfl,hb⟩;exact (F _ _ (H.k.call hb) rfl (D.b rfl hb H.x))
  ·intro P K I H _ _ F;simp [go_sem,(gS K 25 (H.d 5 rfl rfl))];exact (F _ _ H.k (congrArg (Value.int .i64) (wrp (by omega))) (D.q rfl H.x))
  ·exact Jg 6 rfl rfl rfl rfl λ _ _ _ _=>D.q rfl
  intro L a13 w14 W B M R O;have x0:=O;replace U:=B.Z U;replace J:=B.E J;replace s0:=B.G s0;replace s1:=B.G s1;replace s2:=B.G s2;replace s3:=B.G s3;replace s8:=B.G s8;have s9:=gS a13 9 (R 7 _ rfl);replace b3:=b3.k0 M;replace V:=Nat.le_trans V M.size;replace S:=M.below0 S;clear B M R W x0 D s11;obtain ⟨gg,egg⟩:∃ z:Int,z=((Xh [xa,xb,xc,xd]:Nat):Int):=⟨_,rfl⟩;rw [<- egg] at s9;have hgg:1<=gg/\gg<=10000000000:=by rw [egg];exact hg4
  have ht0 : -10000000000<=xa.tdiv gg/\xa.tdiv gg<=10000000000:=by rw [egg];exact hG4.fa
  have ht1 : -10000000000<=xb.tdiv gg/\xb.tdiv gg<=10000000000:=by rw [egg];exact hG4.fb
  have ht2 : -10000000000<=xc.tdiv gg/\xc.tdiv gg<=10000000000:=by rw [egg];exact hG4.fc
  have ht3 : -10000000000<=xd.tdiv gg/\xd.tdiv gg<=10000000000:=by rw [egg];exact hG4.fd
  refine Xl (wp_seq ?_);have D:Xd [] (λ L aa I=>ZB I w.heap.size 49 [.int .i64 0,.int .i64 0,.int .i64 0,.int .i64 0] (L 13) (λ _ vs=>vs=[.int .i64 (xa.tdiv gg),.int .i64 (xb.tdiv gg),.int .i64 (xc.tdiv gg),.int .i64 (xd.tdiv gg)])):=by
   intro L aa I w' kk vv hkk hb O;have x0:=O;exact (x0.bel hb (λ _ h=>h))
  refine Xz D [27,28,29,30,31,32,33,34,35,36,37,38,39,0] [some (.int .i64 xa),some (.int .i64 gg),some (.int .i64 (xa.tdiv gg)),some (.int .i64 xb),some (.int .i64 gg),some (.int .i64 (xb.tdiv gg)),some (.int .i64 xc),some (.int .i64 gg),some (.int .i64 (xc.tdiv gg)),some (.int .i64 xd),some (.int .i64 gg),some (.int .i64 (xd.tdiv gg)),some (.agg #[.int .i64 (xa.tdiv gg),.int .i64 (xb.tdiv gg),.int .i64 (xc.tdiv gg),.int .i64 (xd.tdiv gg)]),none] ([[],[],[0,1],[],[],[3,4],[],[],[6,7],[],[],[9,10],[0,1,2,3,4,5,6,7,8,9,10,11],[0,1,2,3,4,5,6,7,8,9,10,11,12]]) [27,28,29,30,31,32,33,34,35,36,37,38,39] [w.heap.size] ?_ (e4 ?_ ?_ ?_ ?_ (e4 ?_ ?_ ?_ ?_ (e4 ?_ ?_ ?_ ?_ (e2 ?_ ?_ .nil)))) ?_
  ·exact λ _ h=>(⟨λ _=>b3.kp h (by simp),(λ h=>by cases h)⟩)
  ·exact Yx s0 rfl rfl rfl λ _ _ _ _ h=>h
  ·exact Yx s9 rfl rfl rfl λ _ _ _ _ h=>h
  ·exact λ P K I H _ _ F=>wp_quo rfl (ev (H.d 0 rfl rfl)) (ev (H.d 1 rfl rfl)) (by omega) (by omega) (F _ _ H.k rfl H.x)
  ·exact Yx s1 rfl rfl rfl λ _ _ _ _ h=>h
  ·exact Yx s9 rfl rfl rfl λ _ _ _ _ h=>h
  ·exact λ P K I H _ _ F=>wp_quo rfl (ev (H.d 3 rfl rfl)) (ev (H.d 4 rfl rfl)) (by omega) (by omega) (F _ _ H.k rfl H.x)
  ·exact Yx s2 rfl rfl rfl λ _ _ _ _ h=>h
  ·exact Yx s9 rfl rfl rfl λ _ _ _ _ h=>h
  ·exact λ P K I H _ _ F=>wp_quo rfl (ev (H.d 6 rfl rfl)) (ev (H.d 7 rfl rfl)) (by omega) (by omega) (F _ _ H.k rfl H.x)
  ·exact Yx s3 rfl rfl rfl λ _ _ _ _ h=>h
  ·exact Yx s9 rfl rfl rfl λ _ _ _ _ h=>h
  ·exact λ P K I H _ _ F=>wp_quo rfl (ev (H.d 9 rfl rfl)) (ev (H.d 10 rfl rfl)) (by omega) (by omega) (F _ _ H.k rfl H.x)
  ·intro P K I H _ _ F;simp [go_sem,(gS K 29 (H.d 2 rfl rfl)),(gS K 32 (H.d 5 rfl rfl)),(gS K 35 (H.d 8 rfl rfl)),(gS K 38 (H.d 11 rfl rfl))];exact (F _ _ H.k rfl H.x)
  ·intro P K I H _ _ F;have x0:=H.x;have X:=x0.1 H.n;simp [go_sem,(gS K 39 (H.d 12 rfl rfl)),H.f.g rfl s8,X.cell,X.frz];exact F undef _ (H.k.store (.inr (by simp)) [.int .i64 (xa.tdiv gg),.int .i64 (xb.tdiv gg),.int .i64 (xc.tdiv gg),.int .i64 (xd.tdiv gg)] 0) trivial (ZB.set X (us:=[.int .i64 (xa.tdiv gg),.int .i64 (xb.tdiv gg),.int .i64 (xc.tdiv gg),.int .i64 (xd.tdiv gg)]) rfl rfl)
  intro L a15 w16 W B M R O;have x0:=O;replace U:=B.Z U;replace J:=B.E J;replace s8:=B.G s8;clear b3;obtain ⟨_,b3,rfl⟩:=x0.2 (W 13 (by decide));replace V:=Nat.le_trans V M.size;replace S:=M.below S S.size (by simp<;>omega);clear B M R W x0 D s0 s1 s2 s3 s9;refine Xl (wp_ret ?_);refine bodyPost_ret (v:=.agg #[.int .i64 (xa.tdiv gg),.int .i64 (xb.tdiv gg),.int .i64 (xc.tdiv gg),.int .i64 (xd.tdiv gg)]) (by simp [results,Tryz.results39,go_sem,s8,b3.cell]) J ?_;exact ⟨by rw [hpm];unfold pieceN;rw [<- egg],S⟩
theorem iCovers_c (p:List Half) (a b c:Int) (pa:ZC) (w:World) (hp:Xc p=true) (ha : -10000000<=a/\a<=10000000) (hb : -10000000<=b/\b<=10000000) (hc : -10000000000<=c/\c<=10000000000) (hsp:Sl 3 Xe w pa.A p) :
 Calls Tryz.prog 40 #[.agg #[.slice pa.A p.length pa.c],.int .i64 a,.int .i64 b,.int .i64 c] w λ x w'=>x=.returned (.bool (covB p (XO a b c)))/\Below w.heap.size w w':=by
 refine ZY Tryz.func40 rfl (n:=34) Tryz.ntmps40 (by simp) ?_;intro a0 U J ha;have s0:a0.tmps[0]?.getD undef=.agg #[.slice pa.A p.length pa.c]:=ha 0 _ rfl;have s1:a0.tmps[1]?.getD undef=.int .i64 a:=ha 1 _ rfl;have s2:a0.tmps[2]?.getD undef=.int .i64 b:=ha 2 _ rfl;have s3:a0.tmps[3]?.getD undef=.int .i64 c:=ha 3 _ rfl;clear ha;have S:=Below.refl w.heap.size w;have V:=Nat.le_refl w.heap.size;refine wp_seq ?_;refine ZD [4,8] [.pointer (some ⟨w.heap.size,0,none⟩),.bool false] [some (.cells [.slice pa.A p.length pa.c].toArray 26),none] [0,1] [4,8] [0,1] (by kernel_rfl) (by rw [U];decide) (ec ?_ (ec ?_ .nil)) ?_
 ·intro a w' B hs N Q F;simp [go_sem,B.g rfl s0];rw [hs];exact F
 ·intro a w' B hs N Q F;simp [go_sem];exact F
 intro a1 w2 B R hb hO;replace U:=B.size.trans U;replace J:=B.defers.trans J;replace s1:=B.g rfl s1;replace s2:=B.g rfl s2;replace s3:=B.g rfl s3;have s4:a1.tmps[4]?.getD undef=.pointer (some ⟨w.heap.size,0,none⟩):=R 0 (by decide);have b3:Xv w2 w.heap.size 26 [.slice pa.A p.length pa.c]:=hO 0 _ rfl;have hG:=b3.lt;replace S:=Xg S hb;have zw2:=Nat.le_trans V hb.size;replace V:=Nat.le_refl w2.heap.size;clear B R hb hO s0;refine Xl (wp_seq ?_);have D:Xd [9] (λ L aa I=>(L 7=true->Ys w2 aa I 9 85 [.int .i64 0,.int .i64 0,.int .i64 0] (L 8) (λ _ vs=>vs=[.int .i64 (((XO a b c).getD Xb).a),.int .i64 (((XO a b c).getD Xb).b),.int .i64 (((XO a b c).getD Xb).c)]))):=by
  intro L aa I w' kk vv hkk hb O;have x0:=O;exact (λ h=>((x0 h).bel hb (λ _ h=>h)).put (hkk 9 (by simp)) _)
 refine Xz D [14,15,16,17,13,18,19,9,0,10] [some (.int .i64 a),some (.int .i64 b),some (.int .i64 c),some (.tuple #[Yf ((XO a b c).getD Xb),.bool ((XO a b c).isSome)]),some (.tuple #[Yf ((XO a b c).getD Xb),.bool ((XO a b c).isSome)]),some (Yf ((XO a b c).getD Xb)),some (.bool ((XO a b c).isSome)),none,none,some (.bool ((XO a b c).isSome))] (X5 10) [14,15,16,17,13,18,19,9,10] [] ?_ (e4 ?_ ?_ ?_ ?_ (e4 ?_ ?_ ?_ ?_ (e2 ?_ ?_ .nil))) ?_
 ·exact λ _ h=>(λ h=>by cases h)
 ·exact Yx s1 rfl rfl rfl λ _ _ _ _=>D.q rfl
 ·exact Yx s2 rfl rfl rfl λ _ _ _ _=>D.q rfl
 ·exact Yx s3 rfl rfl rfl λ _ _ _ _=>D.q rfl
 ·intro P K I H _ _ F;simp [go_sem,(gS K 14 (H.d 0 rfl rfl)),(gS K 15 (H.d 1 rfl rfl)),(gS K 16 (H.d 2 rfl rfl))];refine (iHalfOf_c a b c I ⟨by omega,by omega⟩ ⟨by omega,by omega⟩ ⟨by omega,by omega⟩).mono ?_;rintro x wx ⟨rfl,hb⟩;exact (F _ _ (H.k.call hb) (optHalf_eq _) (D.b rfl hb H.x))
 ·exact oMDX 3 rfl rfl rfl rfl λ _ _ _ _=>D.q rfl
 ·exact oEDX 4 rfl rfl rfl rfl rfl λ _ _ _ _=>D.q rfl
 ·exact oEDX 4 rfl rfl rfl rfl rfl λ _ _ _ _=>D.q rfl
 ·intro P K I H _ _ F;have x0:=H.x;simp [go_sem];exact F _ _ (H.k.alloc _) trivial (λ _=>by rw [show Yb P 7 8=false from H.t 8 rfl];exact Ys.new (s:=9) (H.f.lt (by rw [U];decide)) H.k.size [.int .i64 0,.int .i64 0,.int .i64 0])
 ·intro P K I H _ _ F;have x0:=H.x;obtain ⟨g,eg,hg,y,_⟩:=x0 (H.r 7 rfl);have X:=y H.n;simp [go_sem,(gS K 18 (H.d 5 rfl rfl)),eg,X.cell,X.frz];exact F undef _ (H.k.store (.inl hg) [.int .i64 (((XO a b c).getD Xb).a),.int .i64 (((XO a b c).getD Xb).b),.int .i64 (((XO a b c).getD Xb).c)] 0) trivial (λ _=>Ys.set eg hg X (us:=[.int .i64 (((XO a b c).getD Xb).a),.int .i64 (((XO a b c).getD Xb).b),.int .i64 (((XO a b c).getD Xb).c)]) rfl rfl)
 ·exact Jg 6 rfl rfl rfl rfl λ _ _ _ _=>D.q rfl
 intro L a4 w5 W B M R O;have x0:=O;replace U:=B.Z U;replace J:=B.E J;replace s4:=B.G s4;have s10:=gS a4 10 (R 9 _ rfl);replace b3:=b3.k0 M;obtain ⟨g6,s9,lg6,-,b6⟩:=x0 (W 7 (by decide));obtain ⟨_,b6,rfl⟩:=b6 (W 8 (by decide));have ug6:=b6.lt;have zw5:=M.size;replace V:=Nat.le_refl w5.heap.size;replace S:=M.below0 S;clear B M R W x0 D s1 s2 s3;refine Xl (wp_seq (wp_seq ?_));refine Xf [20,21] [some (.bool ((XO a b c).isSome)),some (.bool (!((XO a b c).isSome)))] (X5 2) [20,21] [] (λ _ _ _=>True) ?_ (e2 ?_ ?_ .nil) ?_
 ·exact λ _ _=>trivial
 ·exact Za s10 rfl rfl rfl
 ·exact oNDT 0 rfl rfl rfl rfl
 intro L a7 w8 W B M R O;replace U:=B.Z U;replace J:=B.E J;replace s4:=B.G s4;replace s9:=B.G s9;have s21:=gS a7 21 (R 1 _ rfl);replace b3:=b3.k0 M;replace b6:=b6.k0 M;replace V:=Nat.le_trans V M.size;replace S:=M.below0 S;clear B M R W O s10;refine Xl ?_;rcases Bool.eq_false_or_eq_true (!((XO a b c).isSome)) with q9|q9
 ·refine wp_cond_true (ev (vb s21 q9)) ?_;refine wp_seq ?_;refine Xf [8] [some (.bool false)] (X5 1) [8] [] (λ _ _ _=>True) ?_ (en rfl ?_ .nil) ?_
  ·exact λ _ _=>trivial
  ·exact Kw rfl rfl
  intro L a10 w11 W B M R O;replace U:=B.Z U;replace J:=B.E J;have s8:=gS a10 8 (R 0 _ rfl);replace V:=Nat.le_trans V M.size;replace S:=M.below0 S;clear B M R W O s4 s9 s21 b3 b6;refine Xl (wp_ret (Kl ?_));refine bodyPost_ret (v:=.bool false) (by simp [results,Tryz.results40,go_sem,s8]) J ?_;exact ⟨by rw [cov_no (not_t q9)],S⟩
 ·have hgok:Xq ((XO a b c).getD Xb)=true:=optH_ok (Kx q9);refine wp_cond_false (ev (vb s21 q9)) ?_;refine wp_skip (Xl (wp_seq (wp_seq ?_)));have D:Xd [23] (λ L aa I=>(L 1=true->(λ I v=>∃ A1 c1,v=.slice A1 ((XD p).length) c1/\XI 30 3 spotC I w8.heap.size (.slice A1 (XD p).length c1) (XD p)) I (aa.tmps[23]?.getD undef))):=by
   intro L aa I w' kk vv hkk hb O;have x0:=O;exact (λ h=>by rw [Xj (hkk 23 (by simp))];obtain ⟨A1',c1',e,f1'⟩:=x0 h;exact ⟨A1',c1',e,f1'.below hb Xs⟩)
  refine Xz D [22,23,24,25] [some (.agg #[.slice pa.A p.length pa.c]),none,some (.int .i64 (((XD p).length:Nat):Int)),some (.int .i64 0)] (X5 4) [22,23,24,25] [] ?_ (e4 ?_ ?_ ?_ ?_ .nil) ?_
  ·exact λ _ h=>(λ h=>by cases h)
  ·intro P K I H _ _ F;simp [go_sem,H.f.g rfl s4,(b3.k0 H.k).cell];exact (F _ _ H.k rfl (D.q rfl H.x))
  ·intro P K I H _ _ F;have x0:=H.x;simp [go_sem,(gS K 22 (H.d 0 rfl rfl))];have hBi:=H.k.below0 S;refine (iCorners_c p pa I hp (hsp.below hBi)).mono ?_;rintro x wx ⟨_,rfl,⟨A1,c1,rfl,f0⟩,hb⟩;have f1:=XI.mono (show XI 30 3 spotC wx I.heap.size (.slice A1 (XD p).length c1) (XD p) from ⟨_,_,rfl,f0⟩) H.k.size;exact (F _ _ (H.k.call hb) trivial (λ _=>by rw [XF (H.f.lt (by rw [U];decide))];exact ⟨A1,c1,rfl,f1⟩))
  ·intro P K I H _ _ F;have x0:=H.x;obtain ⟨A1,c1,ee1,f1⟩:=x0 (H.r 1 rfl);simp [go_sem,ee1];exact (F _ _ H.k rfl (D.q rfl H.x))
  ·exact oMCX rfl rfl λ _ _ _ _=>D.q rfl
  intro L a12 w13 W B M R O;have x0:=O;replace U:=B.Z U;replace J:=B.E J;replace s9:=B.G s9;have s24:=gS a12 24 (R 2 _ rfl);have s25:=gS a12 25 (R 3 _ rfl);replace b6:=b6.k0 M;obtain ⟨A1,c1,s23,N1⟩:=x0 (W 1 (by decide));have i1:∀ p,A1=some p->p.block<w13.heap.size:=λ p hp=>(N1.blk p hp).2;have zw8:=V;have zw13:=M.size;replace V:=Nat.le_refl w13.heap.size;replace S:=M.below0 S;clear B M R W x0 D s4 s21 b3;refine Xl (wp_block ?_);refine wp_loop (λ al wl=>al.tmps.size=34/\al.defers=[]/\∃ (k:Nat),(k<=(XD p).length)/\((((XD p).take k).all λ s=>!decide (sgn (valS ((XO a b c).getD Xb) s) > 0))=true)/\al.tmps[9]?.getD undef=.pointer (some ⟨g6,0,none⟩)/\al.tmps[24]?.getD undef=.int .i64 (((XD p).length:Nat):Int)/\al.tmps[25]?.getD undef=.int .i64 (k:Int)/\al.tmps[23]?.getD undef=.slice A1 ((XD p).length) c1/\Xv wl g6 85 [.int .i64 (((XO a b c).getD Xb).a),.int .i64 (((XO a b c).getD Xb).b),.int .i64 (((XO a b c).getD Xb).c)]/\XI 30 3 spotC wl w8.heap.size (.slice A1 (XD p).length c1) (XD p)/\Below w.heap.size w wl/\w13.heap.size<=wl.heap.size) (λ al _=>((XD p).length-(intOf (al.tmps[25]?.getD undef)).toNat)) ?_ ?_
  ·exact ⟨U,J,(0),(Nat.zero_le _),(rfl),s9,s24,s25,s23,b6,N1,S,(by omega)⟩
  clear U J S V s9 s24 s25 s23 b6 N1;rintro a14 w15 ⟨U,J,k,hk,hall,s9,s24,s25,s23,b6,N1,S,V⟩;have zw15:=V;replace V:=Nat.le_refl w15.heap.size;have hmu:((XD p).length-(intOf (a14.tmps[25]?.getD undef)).toNat)=((XD p).length-(intOf ((.int .i64 (k:Int)))).toNat):=by rw [s25]
  refine wp_seq ?_;refine Xf [26] [some (.bool (decide ((k:Int)<(((XD p).length:Nat):Int))))] (X5 1) [26] [] (λ _ _ _=>True) ?_ (en rfl ?_ .nil) ?_
  ·exact λ _ _=>trivial
  ·exact λ P K I H _ _ F=>X3 rfl (ev (H.f.g rfl s25)) (ev (H.f.g rfl s24)) rfl rfl (F _ _ H.k rfl trivial)
  intro L a16 w17 W B M R O;replace U:=B.Z U;replace J:=B.E J;replace s9:=B.G s9;replace s24:=B.G s24;replace s25:=B.G s25;replace s23:=B.G s23;have s26:=gS a16 26 (R 0 _ rfl);replace b6:=b6.k0 M;replace N1:=N1.below M.toBelow Xs;replace V:=Nat.le_trans V M.size;replace S:=M.below0 S;clear B M R W O;refine Xl (wp_seq ?_);rcases Bool.eq_false_or_eq_true (decide ((k:Int)<(((XD p).length:Nat):Int))) with q18|q18
  ·have hkl:k<(XD p).length:=by have:=Kk q18;omega
   have hcl:(XD p).length<=40:=by rw [YY];exact Z4 hp
   obtain ⟨bc,oc,ec_,fc⟩:=ElS.open_ (N1.out spotC_len) (by omega);refine wp_cond_true (ev (vb s26 q18)) ?_;refine wp_skip (Xl (wp_seq (wp_block (wp_seq ?_))));have D:Xd [12] (λ L aa I=>(L 2=true->Ys w17 aa I 12 30 [.int .i64 0,.int .i64 0,.int .i64 0] (L 3) (λ _ vs=>vs=[.int .i64 (((XD p).getD k sp0).x),.int .i64 (((XD p).getD k sp0).y),.int .i64 (((XD p).getD k sp0).d)]))):=by
    intro L aa I w' kk vv hkk hb O;have x0:=O;exact (λ h=>((x0 h).bel hb (λ _ h=>h)).put (hkk 12 (by simp)) _)
   refine Xz D [27,28,12,0] [some (.pointer (some ⟨bc,oc+k*3,none⟩)),some (spotV ((XD p).getD k sp0)),none,none] (X5 4) [27,28,12] [] ?_ (e4 ?_ ?_ ?_ ?_ .nil) ?_
   ·exact λ _ h=>(λ h=>by cases h)
   ·intro P K I H _ _ F;simp [go_sem,H.f.g rfl s23,H.f.g rfl s25,hkl,ec_];exact (F _ _ H.k rfl (D.q rfl H.x))
   ·intro P K I H _ _ F;have hE:=fc.kp H.k (by simp);simp [go_sem,(gS K 27 (H.d 0 rfl rfl)),(hE.at_ sp0 (i:=k) (by omega) 0 (p:=oc+k*3) (by omega) rfl),(hE.at_ sp0 (i:=k) (by omega) 1 (p:=oc+k*3+1) (by omega) rfl),(hE.at_ sp0 (i:=k) (by omega) 2 (p:=oc+k*3+2) (by omega) rfl)];exact (F _ _ H.k rfl (D.q rfl H.x))
   ·intro P K I H _ _ F;have x0:=H.x;simp [go_sem];exact F _ _ (H.k.alloc _) trivial (λ _=>by rw [show Yb P 2 3=false from H.t 3 rfl];exact Ys.new (s:=12) (H.f.lt (by rw [U];decide)) H.k.size [.int .i64 0,.int .i64 0,.int .i64 0])
   ·intro P K I H _ _ F;have x0:=H.x;obtain ⟨g,eg,hg,y,_⟩:=x0 (H.r 2 rfl);have X:=y H.n;simp [go_sem,(gS K 28 (H.d 1 rfl rfl)),eg,X.cell,X.frz];exact F undef _ (H.k.store (.inl hg) [.int .i64 (((XD p).getD k sp0).x),.int .i64 (((XD p).getD k sp0).y),.int .i64 (((XD p).getD k sp0).d)] 0) trivial (λ _=>Ys.set eg hg X (us:=[.int .i64 (((XD p).getD k sp0).x),.int .i64 (((XD p).getD k sp0).y),.int .i64 (((XD p).getD k sp0).d)]) rfl rfl)
   intro L a19 w20 W B M R O;have x0:=O;replace U:=B.Z U;replace J:=B.E J;replace s9:=B.G s9;replace s24:=B.G s24;replace s25:=B.G s25;replace s23:=B.G s23;replace b6:=b6.k0 M;obtain ⟨g21,s12,lg21,-,b21⟩:=x0 (W 2 (by decide));obtain ⟨_,b21,rfl⟩:=b21 (W 3 (by decide));have ug21:=b21.lt;replace N1:=N1.below M.toBelow Xs;have zw17:=V;have zw20:=M.size;replace V:=Nat.le_refl w20.heap.size;replace S:=M.below0 S;clear B M R W x0 D s26 fc;refine Xl (wp_seq ?_);refine Xf [29,30,31,32] [some (Yf ((XO a b c).getD Xb)),some (spotV ((XD p).getD k sp0)),some (.int .i64 (sgn (valS ((XO a b c).getD Xb) ((XD p).getD k sp0)))),some (.bool (decide (sgn (valS ((XO a b c).getD Xb) ((XD p).getD k sp0)) > 0)))] (X5 4) [29,30,31,32] [] (λ _ _ _=>True) ?_ (e4 ?_ ?_ ?_ ?_ .nil) ?_
   ·exact λ _ _=>trivial
   ·intro P K I H _ _ F;simp [go_sem,H.f.g rfl s9,(b6.k0 H.k).cell];exact (F _ _ H.k rfl trivial)
   ·intro P K I H _ _ F;simp [go_sem,H.f.g rfl s12,(b21.k0 H.k).cell];exact (F _ _ H.k rfl trivial)
   ·intro P K I H _ _ F;simp [go_sem,(gS K 29 (H.d 0 rfl rfl)),(gS K 30 (H.d 1 rfl rfl))];refine (iSideOf_c ((XO a b c).getD Xb) ((XD p).getD k sp0) I hgok (corners_ok hp _ (Ki hkl sp0))).mono ?_;rintro x wx ⟨rfl,hb⟩;exact (F _ _ (H.k.call hb) rfl trivial)
   ·exact λ P K I H _ _ F=>X3 rfl (ev (H.d 2 rfl rfl)) rfl rfl rfl (F _ _ H.k rfl trivial)
   intro L a22 w23 W B M R O;replace U:=B.Z U;replace J:=B.E J;replace s9:=B.G s9;replace s24:=B.G s24;replace s25:=B.G s25;replace s23:=B.G s23;have s32:=gS a22 32 (R 3 _ rfl);replace b6:=b6.k0 M;replace N1:=N1.below M.toBelow Xs;replace V:=Nat.le_trans V M.size;replace S:=M.below0 S;clear B M R W O s12 b21;refine Xl ?_;rcases Bool.eq_false_or_eq_true (decide (sgn (valS ((XO a b c).getD Xb) ((XD p).getD k sp0)) > 0)) with q24|q24
   ·refine wp_cond_true (ev (vb s32 q24)) ?_;refine wp_seq ?_;refine Xf [8] [some (.bool false)] (X5 1) [8] [] (λ _ _ _=>True) ?_ (en rfl ?_ .nil) ?_
    ·exact λ _ _=>trivial
    ·exact Kw rfl rfl
    intro L a25 w26 W B M R O;replace U:=B.Z U;replace J:=B.E J;have s8:=gS a25 8 (R 0 _ rfl);replace V:=Nat.le_trans V M.size;replace S:=M.below0 S;clear B M R W O s9 s24 s25 s23 s32 b6 N1 i1;refine Xl (wp_ret ?_);refine ib_r (Kl (Kl (ib_r (Kl ?_))));refine bodyPost_ret (v:=.bool false) (by simp [results,Tryz.results40,go_sem,s8]) J ?_;exact ⟨by rw [cov_stop hkl q24],S⟩
   ·refine wp_cond_false (ev (vb s32 q24)) ?_;refine wp_skip ?_;refine ib_n (Xl ?_);refine Xf [33,25] [some (.int .i64 ((k:Int)+1)),some (.int .i64 ((k:Int)+1))] (X5 2) [33,25] [] (λ L aa I=>(L 1=false->aa.tmps[25]?.getD undef=.int .i64 (k:Int))) ?_ (e2 ?_ ?_ .nil) ?_
    ·exact λ _ h=>(λ _=>s25)
    ·intro P K I H _ _ F;have x0:=H.x;exact Y0 rfl (ev (x0 (H.t 1 rfl))) rfl (by omega) (F _ _ H.k rfl (λ h=>(Xj (by decide) _).trans (x0 h)))
    ·intro P K I H _ _ F;have x0:=H.x;exact Xy rfl (ev (H.d 0 rfl rfl)) (F _ _ H.k rfl (λ h=>by simp [Yb] at h))
    intro L a27 w28 W B M R O;have x0:=O;replace U:=B.Z U;replace J:=B.E J;replace s9:=B.G s9;replace s24:=B.G s24;replace s23:=B.G s23;have s25:=gS a27 25 (R 1 _ rfl);replace b6:=b6.k0 M;replace N1:=N1.below M.toBelow Xs;replace V:=Nat.le_trans V M.size;replace S:=M.below0 S;clear B M R W x0 s32;refine Xl ?_;refine ⟨?_, ?_⟩
    ·exact ⟨U,J,(k+1),(by omega),(cov_next hkl hall q24),s9,s24,s25,s23,b6,N1,S,(by omega)⟩
    ·show ((XD p).length-(intOf (a27.tmps[25]?.getD undef)).toNat)<_;rw [s25,hmu];simp only [intOf];omega
  ·have ek:k=(XD p).length:=by have:=XB q18;omega
   rw [ek,List.take_length] at hall;refine wp_cond_false (ev (vb s26 q18)) ?_;refine wp_exit ?_;refine JN (JN (ib_x (Xl (wp_seq ?_))));refine Xf [8] [some (.bool true)] (X5 1) [8] [] (λ _ _ _=>True) ?_ (en rfl ?_ .nil) ?_
   ·exact λ _ _=>trivial
   ·exact Kw rfl rfl
   intro L a29 w30 W B M R O;replace U:=B.Z U;replace J:=B.E J;have s8:=gS a29 8 (R 0 _ rfl);replace V:=Nat.le_trans V M.size;replace S:=M.below0 S;clear B M R W O s9 s24 s25 s23 s26 b6 N1 i1;refine Xl (wp_ret ?_);refine bodyPost_ret (v:=.bool true) (by simp [results,Tryz.results40,go_sem,s8]) J ?_;exact ⟨by rw [cov_yes (Kx q9) hall],S⟩
end Go.Proofs.YtbekjpkcicjcgabGreat
