/-
 The run of a room, step by step, in plain words.
 Conditions: none.
-/
import Derived.Test.YtbekjpkcicjcgaaGreatGrY
import Derived.Test.YtbekjpkcicjcgaaGreatFilS
import Derived.Test.YtbekjpkcicjcgaaGreatKrg
set_option maxHeartbeats 3000000
set_option maxRecDepth 100000
namespace Go.Proofs.YtbekjpkcicjcgaaGreat
open Go.RowKit
def hasS (p:List Half) (s:XH):Bool:=!decide (p.length=0)&&Xo s&&Xc p&&YL p s
variable {r:XD} {p:List Half} {s:XH} {ws:List Int} {ns:List XH}
theorem spotOf_ok {x y d:Int} {t:XH} (h:Y9 x y d=some t):Xo t=true:=by
 unfold Y9 at h;split at h
 ·cases h
 ·split at h
  ·rename_i q
   injection h with h
   rw [<- h];exact q
  ·cases h
theorem nxtO_ok {u:XW} {v t:XH} (h:ZO r s u v=some t):Xo t=true:=by
 unfold ZO at h;split at h
 ·cases h
 ·exact spotOf_ok h
end Go.Proofs.YtbekjpkcicjcgaaGreat
namespace Go.Proofs.YtbekjpkcicjcgaaGreat
open Go.RowKit
theorem wh_rat {n:Int} (h : -1000<=n/\n<=1000):Xh ⟨n,1⟩=true:=by
 have h1:=(of_le (t:=n) (d:=1) (n:=0) (e:=1) Oz Oz).1;rw [ratio_whole Oz] at h1;exact h1
theorem tableOk_cells {t:JI} (h:ZZ t=true) {k:Nat} (hk:k<t.cells.length) : -1000000<=t.cells.getD k 0/\t.cells.getD k 0<=1000:=by
 simp only [ZZ,Bool.and_eq_true,List.all_eq_true] at h;have h1:=h.2 _ (List.getElem_mem hk);rw [List.getD_eq_getElem?_getD,List.getElem?_eq_getElem hk,Option.getD_some];unfold cellOk at h1;simp only [Bool.or_eq_true,beq_iff_eq,Y3] at h1;omega
theorem cmp_nlt {a b:XW} (ha:Xh a=true) (hb:Xh b=true) (h:¬ XF a b<0):b.n*a.d<=a.n*b.d:=by
 rw [cmp_def ha hb] at h;by_cases h4:a.n*b.d-b.n*a.d<0
 ·exfalso;apply h;unfold sgn;rw [if_pos h4];decide
 ·omega
theorem pick_span {v:YQ} (ok:XN v=true) (wish:Int):Xh (pick v wish)=true/\JZ v (pick v wish)=true:=by
 obtain ⟨a1,a2⟩:=Jz ok;have p1:=JY a1;have p2:=JY a2;have cw:=clampW_bd wish;have wk:Xh ⟨clampW wish,1⟩=true:=whole_ok ⟨Oz,Oz⟩;have cb:=ceil_bd a1;have fb:=floor_bd a2;have ck:Xh ⟨Yf v.low,1⟩=true:=whole_ok cb;have fk:Xh ⟨XU v.high,1⟩=true:=whole_ok fb;have c1:v.low.n*1<=Yf v.low*v.low.d:=by
  unfold Yf;rw [if_pos a1];have:=Int.ediv_mul_le (-v.low.n) (show v.low.d≠0 by omega);rw [Int.neg_mul];omega
 have c2:XU v.high*v.high.d<=v.high.n*1:=by
  unfold XU;rw [if_pos a2];have:=Int.ediv_mul_le v.high.n (show v.high.d≠0 by omega);omega
 have go:∀ u:XW,Xh u=true->Btw v u.n u.d->Xh u=true/\JZ v u=true:=λ u h1 h2=>⟨h1,(inSpan_iff ok h1).2 h2⟩;unfold pick;rw [if_pos ok];split
 ·split
  ·rename_i h
   exact go _ ck ⟨c1,(cmp_le ck a2).1 h⟩
  ·exact go _ a1 (btw_low ok)
 ·rename_i h1
  split
  ·split
   ·rename_i h
    refine go _ fk ⟨?_,c2⟩;exact cmp_nlt fk a1 Oz
   ·exact go _ a2 (btw_high ok)
  ·rename_i h2
   refine go _ wk ⟨?_,(cmp_le wk a2).1 Oz⟩;exact cmp_nlt wk a1 h1
theorem watch_new {r:XD} {p:List Half} (h:KW r p=true) (hne:p≠[]):wnOk r p=true/\wnX r p=⟨r,p,[]⟩/\J7 r p []=true:=by
 have hl:decide (p.length=0)=false:=decide_eq_false (λ e=>hne (List.length_eq_zero_iff.1 e));have h2:=wn_yes (r:=r) (p:=p) (by rw [hl,h];rfl);refine ⟨h2.2,h2.1, ?_⟩;unfold J7;rw [hl,h];rfl
theorem jdg_pick {r:XD} {p:List Half} {s:XH} {v:YQ} {wish:Int} (h:KW r p=true) (hne:p≠[]) (e:XL r p s=some v):jdg r p [] s (pick v wish)=(pick v wish,1):=by
 have w:=(watch_new h hne).2.2;rw [jdg_in w (by rw [e];rfl),e];exact jdgS_in (pick_span (admAt_span _ _ e) wish).2
theorem kept_limits {r:XD} {p:List Half} (h:KW r p=true) {s:XH} (hs:Xo s=true) (hi:YL p s=true):YL r.limits s=true:=by
 obtain ⟨hr,hp,hl,_⟩:=kept_parts h;obtain ⟨hne,hz⟩:=holdsB_pt.1 hi;obtain ⟨h1,h2⟩:=within_pts hp hne (JA hr).limits hl;have:=Jy hs;exact holdsB_pt.2 ⟨h1,h2 _ _ _ Oz hz⟩
theorem kept_next {r:XD} {p:List Half} {s:XH} {v:YQ} {wish:Int} (e:XL r p s=some v) {d t:XH} (hd:d∈Xj r.noise) (ht:ZO r s (pick v wish) d=some t):YL p t=true:=by
 have ok:=admAt_span _ _ e;obtain ⟨h1,h2⟩:=pick_span ok wish;exact held_next e (JY h1) ((inSpan_iff ok h1).1 h2) hd ht
theorem hasS_i {p:List Half} {s:XH}:(!decide (p.length=0)&&Xo s&&Xc p&&YL p s)=hasS p s:=rfl
theorem iHasS_c (p:List Half) (s:XH) (b:Kw) (w:World) (hlp:p.length<=1048576) (hpi:∀ h∈p,h.In) (hsp:Sl 3 Xe w b.A p) (hnb:b.A=none->b.c=0) (hsi:s.In) :
 Calls Tryz.prog 12 #[.agg #[Sv b.A p.length b.c],Yu s] w λ x w'=>x=.returned (Bv (hasS p s))/\Below w.heap.size w w':=by
 refine Yz Tryz.func12 rfl (n:=21) Tryz.ntmps12 Sz ?_;intro a0 M I ha;have s0:a0.tmps[0]?.getD undef=.agg #[Sv b.A p.length b.c]:=ha 0 _ rfl;have s1:a0.tmps[1]?.getD undef=Yu s:=ha 1 _ rfl;clear ha;have J:=Below.refl w.heap.size w;have O:=Nat.le_refl w.heap.size;refine wp_seq ?_;refine Yk [2,3,4] [Pz w.heap.size,Pz (w.heap.size+1),Bf] [some (.cells [Sv b.A p.length b.c].toArray 26),some (.cells [Vi s.x,Vi s.y,Vi s.d].toArray 30),none] [0,1,2] [2,3,4] [0,1,2] (by kernel_rfl) (by rw [M];decide) (ec ?_ (ec ?_ (ec ?_ .nil))) ?_
 ·intro a w' F hs N Q B;simp [go_sem,F.g rfl s0];rw [hs];exact B
 ·intro a w' F hs N Q B;simp [go_sem,F.g rfl s1];rw [hs];exact B
 ·intro a w' F hs N Q B;simp [go_sem];exact B
 intro a1 w2 F K hb hO;replace M:=F.size.trans M;replace I:=F.defers.trans I;have s2:a1.tmps[2]?.getD undef=Pz w.heap.size:=K 0 Dz;have s3:a1.tmps[3]?.getD undef=Pz (w.heap.size+1):=K 1 Dz;have b3:Xq w2 w.heap.size 26 [Sv b.A p.length b.c]:=hO 0 _ rfl;have b4:Xq w2 (w.heap.size+1) 30 [Vi s.x,Vi s.y,Vi s.d]:=hO 1 _ rfl;have hG:=b4.lt;replace J:=Xf J hb;have zw2:=Nat.le_trans O hb.size;replace O:=Nat.le_refl w2.heap.size;clear F K hb hO s0 s1;refine Xi (wp_seq ?_);refine Xl [5,6,7,8,9,10,11,12,13,14,15,16,17,18,19,20,4] [some (.agg #[Sv b.A p.length b.c]),some (Bv (decide (p.length=0))),some (Bv (!(decide (p.length=0)))),some (Bv (!(decide (p.length=0)))),some ((bif !(decide (p.length=0)) then (Yu s:Value) else undef)),some ((bif !(decide (p.length=0)) then (Bv (Xo s):Value) else undef)),some (Bv (!(decide (p.length=0))&&Xo s)),some (Bv (!(decide (p.length=0))&&Xo s)),some ((bif (!(decide (p.length=0))&&Xo s) then (.agg #[Sv b.A p.length b.c]:Value) else undef)),some ((bif (!(decide (p.length=0))&&Xo s) then (Bv (Xc p):Value) else undef)),some (Bv ((!(decide (p.length=0))&&Xo s)&&Xc p)),some (Bv ((!(decide (p.length=0))&&Xo s)&&Xc p)),some ((bif ((!(decide (p.length=0))&&Xo s)&&Xc p) then (.agg #[Sv b.A p.length b.c]:Value) else undef)),some ((bif ((!(decide (p.length=0))&&Xo s)&&Xc p) then (Yu s:Value) else undef)),some ((bif ((!(decide (p.length=0))&&Xo s)&&Xc p) then (Bv (YL p s):Value) else undef)),some (Bv (((!(decide (p.length=0))&&Xo s)&&Xc p)&&YL p s)),some (Bv (((!(decide (p.length=0))&&Xo s)&&Xc p)&&YL p s))] (X9 17) [5,6,7,8,9,10,11,12,13,14,15,16,17,18,19,20,4] [] (λ _ _ _=>True) ?_ (e4 ?_ ?_ ?_ ?_ (eg ?_ (eg ?_ (e2 ?_ ?_ (eg ?_ (eg ?_ (e2 ?_ ?_ (eg ?_ (eg ?_ (eg ?_ (e2 ?_ ?_ .nil))))))))))) ?_
 ·exact λ _ _=>trivial
 ·intro G C D H _ _ B;simp [go_sem,H.f.g rfl s2,(b3.k0 H.k).cell];exact (B _ _ H.k rfl trivial)
 ·intro G C D H _ _ B;simp [go_sem,(gS C 5 (H.d 0 rfl rfl))];refine (ZW p b D).mono ?_;rintro x wx ⟨rfl,hb⟩;exact (B _ _ (H.k.call hb) rfl trivial)
 ·exact JC 1 rfl rfl rfl rfl
 ·exact KC 2 rfl rfl rfl rfl
 ·intro G C D H _ _ B;refine wgt rfl rfl rfl (H.d 3 rfl rfl) (λ qg=>B _ _ H.k (XC qg).symm trivial) λ qg=>?_;simp [go_sem,H.f.g rfl s3,(b4.k0 H.k).cell];exact (B _ _ H.k (Xz qg).symm trivial)
 ·intro G C D H _ _ B;refine wgt rfl rfl rfl (H.d 3 rfl rfl) (λ qg=>B _ _ H.k (XC qg).symm trivial) λ qg=>?_;simp [go_sem,(show C.tmps[9]?.getD undef=_ from (H.d 4 rfl rfl).trans (Xz qg))];refine (iSpotOk_c s D hsi).mono ?_;rintro x wx ⟨rfl,hb⟩;exact (B _ _ (H.k.call hb) (Xz qg).symm trivial)
 ·exact λ G C D H _ _ B=>Za rfl (ev (H.d 3 rfl rfl)) (λ h=>(ev ((H.d 5 rfl rfl).trans (Xz h))).trans (J9 h)) (λ h=>vand_f h) (B _ _ H.k rfl trivial)
 ·exact KC 6 rfl rfl rfl rfl
 ·intro G C D H _ _ B;refine wgt rfl rfl rfl (H.d 7 rfl rfl) (λ qg=>B _ _ H.k (XC qg).symm trivial) λ qg=>?_;simp [go_sem,H.f.g rfl s2,(b3.k0 H.k).cell];exact (B _ _ H.k (Xz qg).symm trivial)
 ·intro G C D H _ _ B;refine wgt rfl rfl rfl (H.d 7 rfl rfl) (λ qg=>B _ _ H.k (XC qg).symm trivial) λ qg=>?_;simp [go_sem,(show C.tmps[13]?.getD undef=_ from (H.d 8 rfl rfl).trans (Xz qg))];have hBi:=H.k.below0 J;refine (KE p b D hlp hpi (hsp.below hBi) hnb).mono ?_;rintro x wx ⟨rfl,hb⟩;exact (B _ _ (H.k.call hb) (Xz qg).symm trivial)
 ·exact λ G C D H _ _ B=>Za rfl (ev (H.d 7 rfl rfl)) (λ h=>(ev ((H.d 9 rfl rfl).trans (Xz h))).trans (J9 h)) (λ h=>vand_f h) (B _ _ H.k rfl trivial)
 ·exact KC 10 rfl rfl rfl rfl
 ·intro G C D H _ _ B;refine wgt rfl rfl rfl (H.d 11 rfl rfl) (λ qg=>B _ _ H.k (XC qg).symm trivial) λ qg=>?_;simp [go_sem,H.f.g rfl s2,(b3.k0 H.k).cell];exact (B _ _ H.k (Xz qg).symm trivial)
 ·intro G C D H _ _ B;refine wgt rfl rfl rfl (H.d 11 rfl rfl) (λ qg=>B _ _ H.k (XC qg).symm trivial) λ qg=>?_;simp [go_sem,H.f.g rfl s3,(b4.k0 H.k).cell];exact (B _ _ H.k (Xz qg).symm trivial)
 ·intro G C D H _ _ B;refine wgt rfl rfl rfl (H.d 11 rfl rfl) (λ qg=>B _ _ H.k (XC qg).symm trivial) λ qg=>?_;simp [go_sem,(show C.tmps[17]?.getD undef=_ from (H.d 12 rfl rfl).trans (Xz qg)),(show C.tmps[18]?.getD undef=_ from (H.d 13 rfl rfl).trans (Xz qg))];have hBi:=H.k.below0 J;refine (iHolds_c p b s D (by have:=Y0 (and_t2 qg);omega) (Zp (and_t2 qg)) (and_t2 (and_t1 qg)) (hsp.below hBi)).mono ?_;rintro x wx ⟨rfl,hb⟩;exact (B _ _ (H.k.call hb) (Xz qg).symm trivial)
 ·exact λ G C D H _ _ B=>Za rfl (ev (H.d 11 rfl rfl)) (λ h=>(ev ((H.d 14 rfl rfl).trans (Xz h))).trans (J9 h)) (λ h=>vand_f h) (B _ _ H.k rfl trivial)
 ·exact Jm 15 rfl rfl rfl rfl
 intro L a5 w6 R F P K S;replace M:=F.Z M;replace I:=F.E I;have s4:=gS a5 4 (K 16 _ rfl);replace O:=Nat.le_trans O P.size;replace J:=P.below0 J;clear F P K R S s2 s3 b3 b4;refine Xi (wp_ret ?_);refine bodyPost_ret (v:=Bv (((!(decide (p.length=0))&&Xo s)&&Xc p)&&YL p s)) (by simp [results,Tryz.results12,go_sem,s4]) I ?_;exact ⟨by rw [hasS_i],J⟩
theorem kpO_some {r:XD} (h:(Ye r).isSome=true):Ye r=some ((Ye r).getD []):=by
 obtain ⟨q,e⟩:=Option.isSome_iff_exists.1 h;rw [e];rfl
theorem void_ne {p:List Half} (h:decide (p.length=0)=false):p≠[]:=λ e=>by rw [e] at h;cases h
theorem has_some {p:List Half} {t:XH} (hp:Xc p=true) (ht:Xo t=true) (h:YL p t=true):hasS p t=true:=by
 unfold hasS;have h1:decide (p.length=0)=false:=decide_eq_false λ e=>by
  rw [List.length_eq_zero_iff.1 e] at h;cases h
 rw [hp,ht,h,h1];rfl
theorem nx_In {o:Option XH} (h:∀ t,o=some t->Xo t=true):(o.getD Yi).In:=by
 cases o with
 | none=>exact ⟨⟨Dz,Dz⟩,⟨Dz,Dz⟩,⟨Dz,Dz⟩⟩
 | some t=>exact spotIn (h t rfl)
theorem jd_some {x:XW × Int} {a:XW} {b:Int} (e:x=(a,b)) {f:FuncId} {args:Array Value} {w:World} (h:Calls Tryz.prog f args w λ y w'=>y=.returned (.tuple #[X0 x.1,Vi x.2])/\Below w.heap.size w w') :
 Calls Tryz.prog f args w λ y w'=>y=.returned (.tuple #[X0 a,Vi b])/\Below w.heap.size w w':=by
 rw [e] at h;exact h
structure TopP (X:Jv) (r:XD) (p:List Half):Prop where
 made:wnOk r p=true
 kept:KW r p=true
 win:WatchIn X
 len:watchLen X<=1048576
 adm:∀ s:XH,Xo s=true->s.d<=100000->hasS p s=true->∃ v,XL r p s=some v
 lim:∀ s:XH,Xo s=true->hasS p s=true->hasS r.limits s=true
 jdg:∀ s v,XL r p s=some v->jdg X.room X.reg X.log s (pick v 0)=(pick v 0,1)
 next:∀ s v d,XL r p s=some v->d∈Xj r.noise->((ZO r s (pick v 0) d).isSome && !hasS p ((ZO r s (pick v 0) d).getD Yi))=false
theorem top_p {X:Jv} {r:XD} {p:List Half} (hb:0<r.bx) (h:KW r p=true) (hne:p≠[]) (e:X=wnX r p):TopP X r p:=by
 obtain ⟨h1,h2,h3⟩:=watch_new h hne;rw [h2] at e;subst e;obtain ⟨k1,k2,_⟩:=kept_parts h;have l1:=roomOk_map k1;have l2:=Y0 (JA k1).noise;have l3:=Y0 (JA k1).limits;have l4:=Y0 k2;have hd:∀ {s:XH},hasS p s=true->YL p s=true:=λ hs=>by unfold hasS at hs;exact and_t2 hs
 refine ⟨h1,h,⟨room_in64 k1,⟨reg_in k2⟩,λ y hy=>by cases hy⟩, ?_,λ s a b c=>kept_adm hb h a b (hd c),λ s a c=>has_some (JA k1).limits a (kept_limits h a (hd c)),λ s v hv=>jdg_pick h hne hv,λ s v d hv hdm=>?_⟩
 ·unfold watchLen;simp only [List.length_nil];omega
 ·cases hn:ZO r s (pick v 0) d with
  | none=>rfl
  | some t =>
   rw [Option.getD_some,has_some k2 (nxtO_ok hn) (kept_next hv hdm hn)];rfl
structure TopT (r:XD) (p:List Half) (t F:JI) (wi:Int) (s:XH):Prop where
 ok:KX r p t wi=true
 fin:F.In
 le:F.cells.length<=1048576
 bd : -1000000<=(YG F s).1/\(YG F s).1<=1000000
 has:(YG F s).2=true->(XL r p s).isSome=true/\JZ ((XL r p s).getD Xu) ⟨(YG F s).1,1⟩=true
theorem top_t {r:XD} {p:List Half} {t F:JI} {wi x y:Int} (hr:XJ r=true) (hp:Xc p=true) (hti:t.In) (hg:Yw t=true) (hw : -5<=wi/\wi<=5) (e:F=Yy r p t wi) (hs:Xo ⟨x,y,1⟩=true):TopT r p t F wi ⟨x,y,1⟩:=by
 have h1:KX r p t wi=true:=by
  unfold KX;rw [hg,hr,hp,Y3.2 ⟨Oz,Oz⟩];rfl
 have h2:=fil_tab h1;have h3:=fil_yes h1;rw [<- e] at h2 h3;have h4:=fil_le r p t wi;rw [<- e] at h4;have a1:F.x0=t.x0:=by rw [h3]
 have a2:F.y0=t.y0:=by rw [h3]
 have a3:F.step=t.step:=by rw [h3]
 have a4:F.nx=t.nx:=by rw [h3]
 have a5:F.ny=t.ny:=by rw [h3]
 obtain ⟨i1,i2,i3,i4,i5⟩:=hti;refine ⟨h1,⟨by rw [a1];exact i1,by rw [a2];exact i2,by rw [a3];exact i3,by rw [a4];exact i4,by rw [a5];exact i5⟩,Oz, ?_,λ hh=>?_⟩
 ·unfold YG;split
  ·exact ⟨Dz,Dz⟩
  ·split
   ·exact ⟨Dz,Dz⟩
   ·rename_i h0 _
    simp only;by_cases hk:cellIx F ⟨x,y,1⟩<F.cells.length
    ·have:=tableOk_cells h2 hk;omega
    ·rw [List.getD_eq_getElem?_getD,List.getElem?_eq_none Oz];exact ⟨Dz,Dz⟩
 ·rcases cell_at h2 hs with ⟨i,j,P⟩|⟨e2,_⟩
  ·have q1:=P.hi;have q2:=P.hj;rw [a4] at q1;rw [a5] at q2;have hx:=P.hx;have hy:=P.hy;rw [a1,a3] at hx;rw [a2,a3] at hy;have hix:cellIx F ⟨x,y,1⟩=j*t.nx.toNat+i:=by
    have:=Kg.1 hg;unfold cellIx;rw [P.cell,a4];simp only;have ke:((j*t.nx.toNat+i:Nat):Int)=(j:Int)*t.nx+(i:Int):=by
     rw [Int.natCast_add,Int.natCast_mul,Int.toNat_of_nonneg Oz]
    omega
   have hget:F.cells.getD (j*t.nx.toNat+i) 0=filC r p (Jl r p) t wi (Yh r p) i j:=by rw [e];exact fil_get h1 q1 q2
   unfold YG at hh ⊢;rw [P.cell,if_neg (by simp only;omega),hix,hget] at hh ⊢;by_cases hc:filC r p (Jl r p) t wi (Yh r p) i j = -1000000
   ·rw [if_pos hc] at hh;cases hh
   ·rw [if_neg hc];obtain ⟨b1,_,v,hv,hb⟩:=fil_cell h1 q1 q2 hc (x:=x) (y:=y) hx hy;have B:=JX hr;have b3 : -1000<=filC r p (Jl r p) t wi (Yh r p) i j/\filC r p (Jl r p) t wi (Yh r p) i j<=1000:=by
     have:=B.low;have:=B.high;omega
    rw [hv];exact ⟨rfl,(inSpan_iff (admAt_ok hv) (wh_rat b3)).2 hb⟩
  ·unfold YG at hh;rw [e2,if_pos Dz] at hh;cases hh
theorem iCornersOf_c (p:List Half) (a:Kw) (w:World) (hp:Xc p=true) (hlp:p.length<=1048576) (hpi:∀ h∈p,h.In) (hsp:Sl 3 Xe w a.A p) (hna:a.A=none->a.c=0) :
 Calls Tryz.prog 11 #[.agg #[Sv a.A p.length a.c]] w λ x w'=>∃ v,x=.returned v/\XG 30 3 Kz w' w.heap.size v (Xj p)/\Below w.heap.size w w':=by
 refine Yz Tryz.func11 rfl (n:=8) Tryz.ntmps11 Sz ?_;intro a0 S I ha;have s0:a0.tmps[0]?.getD undef=.agg #[Sv a.A p.length a.c]:=ha 0 _ rfl;clear ha;have O:=Below.refl w.heap.size w;have V:=Nat.le_refl w.heap.size;refine wp_seq ?_;refine Yk [1,2] [Pz w.heap.size,Nz] [some (.cells [Sv a.A p.length a.c].toArray 26),none] [0,1] [1,2] [0,1] (by kernel_rfl) (by rw [S];decide) (ec ?_ (ec ?_ .nil)) ?_
 ·intro a w' D hs N Q C;simp [go_sem,D.g rfl s0];rw [hs];exact C
 ·intro a w' D hs N Q C;simp [go_sem];exact C
 intro a1 w2 D R hb hO;replace S:=D.size.trans S;replace I:=D.defers.trans I;have s1:a1.tmps[1]?.getD undef=Pz w.heap.size:=R 0 Dz;have b3:Xq w2 w.heap.size 26 [Sv a.A p.length a.c]:=hO 0 _ rfl;have hG:=b3.lt;replace O:=Xf O hb;have zw2:=Nat.le_trans V hb.size;replace V:=Nat.le_refl w2.heap.size;clear D R hb hO s0;refine Xi (wp_seq (wp_seq ?_));refine Xl [3,4,5] [some (.agg #[Sv a.A p.length a.c]),some Bt,some Bf] (X9 3) [3,4,5] [] (λ _ _ _=>True) ?_ (e2 ?_ ?_ (en rfl ?_ .nil)) ?_
 ·exact λ _ _=>trivial
 ·intro U K J H _ _ C;simp [go_sem,H.f.g rfl s1,(b3.k0 H.k).cell];exact (C _ _ H.k rfl trivial)
 ·intro U K J H _ _ C;simp [go_sem,(gS K 3 (H.d 0 rfl rfl))];have hBi:=H.k.below0 O;refine (KE p a J hlp hpi (hsp.below hBi) hna).mono ?_;rintro x wx ⟨rfl,hb⟩;exact (C _ _ (H.k.call hb) (by show _=_;simp only [hp]) trivial)
 ·exact JC 1 rfl rfl rfl rfl
 intro L a4 w5 W D M R Y;replace S:=D.Z S;replace I:=D.E I;replace s1:=D.G s1;have s5:=gS a4 5 (R 2 _ rfl);replace b3:=b3.k0 M;replace V:=Nat.le_trans V M.size;replace O:=M.below0 O;clear D M R W Y;refine Xi ?_;refine wp_cond_false (ev s5) ?_;refine wp_skip (Xi (wp_seq ?_));have hX0:=Xd.e 7 1 (λ J v=>∃ A1 c1,v=Sv A1 ((Xj p).length) c1/\XG 30 3 Kz J w5.heap.size (Sv A1 (Xj p).length c1) (Xj p)) (λ hb _ h=>by obtain ⟨A1',c1',e,f1'⟩:=h;exact ⟨A1',c1',e,f1'.below hb Xy⟩);have hX1:=Xd.e 2 2 (λ J v=>∃ A1 c1,v=Sv A1 ((Xj p).length) c1/\XG 30 3 Kz J w5.heap.size (Sv A1 (Xj p).length c1) (Xj p)) (λ hb _ h=>by obtain ⟨A1',c1',e,f1'⟩:=h;exact ⟨A1',c1',e,f1'.below hb Xy⟩);have T:=hX0.a hX1;refine Xr T [6,7,2] [some (.agg #[Sv a.A p.length a.c]),none,none] (X9 3) [6,7,2] [] ?_ (e2 ?_ ?_ (en rfl ?_ .nil)) ?_
 ·exact λ _ h=>⟨Cz,Cz⟩
 ·intro U K J H _ _ C;simp [go_sem,H.f.g rfl s1,(b3.k0 H.k).cell];exact (C _ _ H.k rfl (T.q rfl H.x))
 ·intro U K J H _ _ C;obtain ⟨x0,x1⟩:=H.x;simp [go_sem,(gS K 6 (H.d 0 rfl rfl))];have hBi:=H.k.below0 O;refine (iCorners_c p a J hp (hsp.below hBi)).mono ?_;rintro x wx ⟨_,rfl,⟨A1,c1,rfl,f0⟩,hb⟩;have f1:=XG.mono (show XG 30 3 Kz wx J.heap.size (Sv A1 (Xj p).length c1) (Xj p) from ⟨_,_,rfl,f0⟩) H.k.size;exact (C _ _ (H.k.call hb) trivial ⟨(λ _=>⟨A1,c1,H.f.s S,f1⟩),(hX1.b rfl hb x1)⟩)
 ·intro U K J H _ _ C;obtain ⟨x0,x1⟩:=H.x;obtain ⟨A1,c1,ee1,f1⟩:=x0 (H.r 1 rfl);exact ZL rfl (ev ee1) (C _ _ H.k trivial ⟨(hX0.q rfl x0),(λ _=>⟨A1,c1,H.f.s S,f1⟩)⟩)
 intro L a6 w7 W D M R Y;obtain ⟨x0,x1⟩:=Y;replace S:=D.Z S;replace I:=D.E I;obtain ⟨A1,c1,s2,N1⟩:=x1 (W 2 Dz);have i1:∀ p,A1=some p->p.block<w7.heap.size:=λ p hp=>(N1.blk p hp).2;have zw5:=V;have zw7:=M.size;replace V:=Nat.le_refl w7.heap.size;replace O:=M.below0 O;clear D M R W x0 x1 T hX0 hX1 s1 s5 b3;refine Xi (wp_ret ?_);refine bodyPost_ret (v:=Sv A1 ((Xj p).length) c1) (by simp [results,Tryz.results11,go_sem,s2]) I ?_;exact ⟨_,rfl,N1.mono Oz,O⟩
theorem iNextSpot_c (r:XD) (s:XH) (u:XW) (v:XH) (ra:Y7) (w:World) (hn:Kt r<=1048576) (hin:JO r) (hs:ZX w r ra) (hnl:Jk ra) (hr:XJ r=true) (hsi:s.In) (hui:u.In) (hvi:v.In) :
 Calls Tryz.prog 16 #[X7 r ra,Yu s,X0 u,Yu v] w λ x w'=>x=.returned (optSpotV (ZO r s u v))/\Below w.heap.size w w':=by
 refine Yz Tryz.func16 rfl (n:=21) Tryz.ntmps16 Sz ?_;intro a0 S I ha;have s0:a0.tmps[0]?.getD undef=X7 r ra:=ha 0 _ rfl;have s1:a0.tmps[1]?.getD undef=Yu s:=ha 1 _ rfl;have s2:a0.tmps[2]?.getD undef=X0 u:=ha 2 _ rfl;have s3:a0.tmps[3]?.getD undef=Yu v:=ha 3 _ rfl;clear ha;have O:=Below.refl w.heap.size w;have V:=Nat.le_refl w.heap.size;refine wp_seq ?_;refine Yk [4,5,6,7,8,9] [Pz w.heap.size,Pz (w.heap.size+1),Pz (w.heap.size+2),Pz (w.heap.size+3),Pz (w.heap.size+4),Bf] [some (.cells (YR r ra).toArray 28),some (.cells [Vi s.x,Vi s.y,Vi s.d].toArray 30),some (.cells [Vi u.n,Vi u.d].toArray 46),some (.cells [Vi v.x,Vi v.y,Vi v.d].toArray 30),some (.cells [V0,V0,V0].toArray 30),none] [0,1,2,3,4,5] [4,5,6,7,8,9] [0,1,2,3,4,5] (by kernel_rfl) (by rw [S];decide) (ec ?_ (ec ?_ (ec ?_ (ec ?_ (ec ?_ (ec ?_ .nil)))))) ?_
 ·intro a w' D hs N Q C;simp [go_sem,D.g rfl s0];rw [hs];exact C
 ·intro a w' D hs N Q C;simp [go_sem,D.g rfl s1];rw [hs];exact C
 ·intro a w' D hs N Q C;simp [go_sem,D.g rfl s2];rw [hs];exact C
 ·intro a w' D hs N Q C;simp [go_sem,D.g rfl s3];rw [hs];exact C
 ·intro a w' D hs N Q C;simp [go_sem];rw [hs];exact C
 ·intro a w' D hs N Q C;simp [go_sem];exact C
 intro a1 w2 D R hb hO;replace S:=D.size.trans S;replace I:=D.defers.trans I;have s4:a1.tmps[4]?.getD undef=Pz w.heap.size:=R 0 Dz;have s5:a1.tmps[5]?.getD undef=Pz (w.heap.size+1):=R 1 Dz;have s6:a1.tmps[6]?.getD undef=Pz (w.heap.size+2):=R 2 Dz;have s7:a1.tmps[7]?.getD undef=Pz (w.heap.size+3):=R 3 Dz;have s8:a1.tmps[8]?.getD undef=Pz (w.heap.size+4):=R 4 Dz;have b3:Xq w2 w.heap.size 28 (YR r ra):=hO 0 _ rfl;have b4:Xq w2 (w.heap.size+1) 30 [Vi s.x,Vi s.y,Vi s.d]:=hO 1 _ rfl;have b5:Xq w2 (w.heap.size+2) 46 [Vi u.n,Vi u.d]:=hO 2 _ rfl;have b6:Xq w2 (w.heap.size+3) 30 [Vi v.x,Vi v.y,Vi v.d]:=hO 3 _ rfl;have b7:Xq w2 (w.heap.size+4) 30 [V0,V0,V0]:=hO 4 _ rfl;have hG:=b7.lt;replace O:=Xf O hb;have zw2:=Nat.le_trans V hb.size;replace V:=Nat.le_refl w2.heap.size;clear D R hb hO s0 s1 s2 s3;refine Xi (wp_seq (wp_seq ?_));refine Xl [10,11,12] [some (X7 r ra),some Bt,some Bf] (X9 3) [10,11,12] [] (λ _ _ _=>True) ?_ (e2 ?_ ?_ (en rfl ?_ .nil)) ?_
 ·exact λ _ _=>trivial
 ·intro U K J H _ _ C;simp [go_sem,H.f.g rfl s4,(b3.k0 H.k).cell];exact (C _ _ H.k rfl trivial)
 ·intro U K J H _ _ C;simp [go_sem,(gS K 10 (H.d 0 rfl rfl))];have hBi:=H.k.below0 O;refine (iRoomOk_c r ra J hn hin (hs.below hBi) hnl).mono ?_;rintro x wx ⟨rfl,hb⟩;exact (C _ _ (H.k.call hb) (by show _=_;simp only [hr]) trivial)
 ·exact JC 1 rfl rfl rfl rfl
 intro L a8 w9 W D M R Y;replace S:=D.Z S;replace I:=D.E I;obtain ⟨s4,s5,s6,s7,s8⟩:=D.G5 s4 s5 s6 s7 s8;have s12:=gS a8 12 (R 2 _ rfl);replace b3:=b3.k0 M;replace b4:=b4.k0 M;replace b5:=b5.k0 M;replace b6:=b6.k0 M;replace b7:=b7.k0 M;replace V:=Nat.le_trans V M.size;replace O:=M.below0 O;clear D M R W Y;refine Xi ?_;refine wp_cond_false (ev s12) ?_;refine wp_skip (Xi (wp_seq ?_));have T:Xd [] (λ L aa J=>XY J (w.heap.size+4) 30 [V0,V0,V0] (L 7) (λ _ vs=>vs=[Vi (((ZO r s u v).getD Yi).x),Vi (((ZO r s u v).getD Yi).y),Vi (((ZO r s u v).getD Yi).d)])):=λ L aa J w' kk vv hkk hb x0=>(x0.bel hb (λ _ h=>h));refine Xr T [14,15,16,17,18,19,20,0,9] [some (X7 r ra),some (Yu s),some (X0 u),some (Yu v),some (.tuple #[Yu ((ZO r s u v).getD Yi),Bv ((ZO r s u v).isSome)]),some (Yu ((ZO r s u v).getD Yi)),some (Bv ((ZO r s u v).isSome)),none,some (Bv ((ZO r s u v).isSome))] (X9 9) [14,15,16,17,18,19,20,9] [(w.heap.size+4)] ?_ (e4 ?_ ?_ ?_ ?_ (e4 ?_ ?_ ?_ ?_ (en rfl ?_ .nil))) ?_
 ·exact λ _ h=>(⟨λ _=>b7.kp h Sz,Cz⟩)
 ·intro U K J H _ _ C;simp [go_sem,H.f.g rfl s4,(b3.kp H.k (by simp<;>omega)).cell];exact (C _ _ H.k rfl H.x)
 ·intro U K J H _ _ C;simp [go_sem,H.f.g rfl s5,(b4.kp H.k (by simp<;>omega)).cell];exact (C _ _ H.k rfl H.x)
 ·intro U K J H _ _ C;simp [go_sem,H.f.g rfl s6,(b5.kp H.k (by simp<;>omega)).cell];exact (C _ _ H.k rfl H.x)
 ·intro U K J H _ _ C;simp [go_sem,H.f.g rfl s7,(b6.kp H.k (by simp<;>omega)).cell];exact (C _ _ H.k rfl H.x)
 ·intro U K J H _ _ C;simp [go_sem,(gS K 14 (H.d 0 rfl rfl)),(gS K 15 (H.d 1 rfl rfl)),(gS K 16 (H.d 2 rfl rfl)),(gS K 17 (H.d 3 rfl rfl))];have hBi:=H.k.below O O.size (by simp<;>omega);refine (iNext_c r s u v ra J hr (hs.below hBi) hsi hui hvi).mono ?_;rintro x wx ⟨rfl,hb⟩;exact (C _ _ (H.k.call hb) (optSpot_eq _) (T U K J _ none undef Sz hb H.x))
 ·exact JV 4 rfl rfl rfl rfl rfl λ _ _ _ _ h=>h
 ·exact JV 4 rfl rfl rfl rfl rfl λ _ _ _ _ h=>h
 ·intro U K J H _ _ C;have x0:=H.x;have HT:=x0.1 H.n;simp [go_sem,(gS K 19 (H.d 5 rfl rfl)),H.f.g rfl s8,HT.cell,HT.frz];exact C undef _ (H.k.store (.inr Sz) [Vi (((ZO r s u v).getD Yi).x),Vi (((ZO r s u v).getD Yi).y),Vi (((ZO r s u v).getD Yi).d)] 0) trivial (XY.set HT (us:=[Vi (((ZO r s u v).getD Yi).x),Vi (((ZO r s u v).getD Yi).y),Vi (((ZO r s u v).getD Yi).d)]) rfl rfl)
 ·exact KS 6 rfl rfl rfl rfl λ _ _ _ _ h=>h
 intro L a10 w11 W D M R Y;have x0:=Y;replace S:=D.Z S;replace I:=D.E I;replace s8:=D.G s8;have s9:=gS a10 9 (R 8 _ rfl);clear b7;obtain ⟨_,b7,rfl⟩:=x0.2 (W 7 Dz);replace V:=Nat.le_trans V M.size;replace O:=M.below O O.size (by simp<;>omega);clear D M R W x0 T s4 s5 s6 s7 s12 b3 b4 b5 b6;refine Xi (wp_ret ?_);refine bodyPost_ret (v:=.tuple #[Yu ((ZO r s u v).getD Yi),Bv ((ZO r s u v).isSome)]) (by simp [results,Tryz.results16,go_sem,s8,b7.cell,s9]) I ?_;exact ⟨by rw [optSpot_eq],O⟩
end Go.Proofs.YtbekjpkcicjcgaaGreat
