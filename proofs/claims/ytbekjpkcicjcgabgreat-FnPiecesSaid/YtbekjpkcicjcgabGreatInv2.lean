/-
 What was made stays, beside a box of another type that is written.
 Conditions: none.
-/
import Derived.Test.YtbekjpkcicjcgabGreatGrV
import Derived.Maps.AppendAt
import Derived.Laws.StructEq
namespace Go.Proofs.YtbekjpkcicjcgabGreat
open Go.RowKit
theorem XJ.otherT {w:World} {base g T:Nat} {x:List Half} {a:ZC} {vs:List Value} (h:XJ w base x a) (hg:Xv w g T vs) (h0:85≠T) (us:List Value) (o:Nat):XJ (w.setCells g o us) base x a:=⟨h.halves.otherC (h.halves.typ hg h0) us o⟩
theorem Yi.otherT {w:World} {base g T:Nat} {x:XK} {a:Yq} {vs:List Value} (h:Yi w base x a) (hg:Xv w g T vs) (h0:3≠T) (h1:85≠T) (us:List Value) (o:Nat):Yi (w.setCells g o us) base x a:=⟨h.map.otherC (h.map.typ hg h0) us o,h.noise.otherT hg h1 us o,h.limits.otherT hg h1 us o,h.apart⟩
theorem YM.otherT {w:World} {base g T:Nat} {x:Watch} {a:JY} {vs:List Value} (h:YM w base x a) (hg:Xv w g T vs) (h0:3≠T) (h1:85≠T) (us:List Value) (o:Nat):YM (w.setCells g o us) base x a:=⟨h.room.otherT hg h0 h1 us o,h.reg.otherT hg h1 us o,h.log.otherC (h.log.typ hg h0) us o,h.apart⟩
theorem YN.otherT {w:World} {base g T:Nat} {x:Track} {a:JZ} {vs:List Value} (h:YN w base x a) (hg:Xv w g T vs) (h0:30≠T) (h1:45≠T) (us:List Value) (o:Nat):YN (w.setCells g o us) base x a:=⟨h.spots.otherC (h.spots.typ hg h0) us o,h.inputs.otherC (h.inputs.typ hg h1) us o,h.apart⟩
theorem XS.otherT {w:World} {base g T:Nat} {x:KS} {a:KW} {vs:List Value} (h:XS w base x a) (hg:Xv w g T vs) (h0:49≠T) (us:List Value) (o:Nat):XS (w.setCells g o us) base x a:=⟨h.lows.otherC (h.lows.typ hg h0) us o,h.highs.otherC (h.highs.typ hg h0) us o,h.apart⟩
structure LawMk (w:World) (x:KS) (a:KW) (K:Int):Prop where
 lows:Sl 4 Yy w a.lows.A (Kq K x.lows.length)
 highs:Sl 4 Yy w a.highs.A (Kq (K+x.lows.length*4) x.highs.length)
theorem LawMk.below {w w':World} {x:KS} {a:KW} {K:Int} (h:LawMk w x a K) (hb:Below w.heap.size w w'):LawMk w' x a K:=⟨h.lows.below hb,h.highs.below hb⟩
def blkLs (L:List ZC):List Nat:=L.flatMap λ a=>blkL a.A
theorem blkLs_in {L:List ZC} {m:Nat} (h:m∈blkLs L):∃ a∈L,∃ p,a.A=some p/\p.block=m:=by
 obtain ⟨a,ha,hm⟩:=List.mem_flatMap.1 h;obtain ⟨p,hp,e⟩:=Yh hm;exact ⟨a,ha,p,hp,e⟩
theorem blkLs_mem {L:List ZC} {a:ZC} {p:Addr} (ha:a∈L) (hp:a.A=some p):p.block∈blkLs L :=
 List.mem_flatMap.2 ⟨a,ha,by rw [hp];simp [blkL]⟩
theorem YT {L:List ZC} {g:Nat} (h:∀ a∈L,∀ p,a.A=some p->p.block≠g):g ∉ blkLs L:=by
 intro hm;obtain ⟨a,ha,p,hp,e⟩:=blkLs_in hm;exact h a ha p hp e
theorem X9.kp {L:List ZC} {w w':World} (h:X9 w w' L):Kp (blkLs L) w w' :=
 ⟨⟨h.os,h.tape,h.output,h.size,λ k hk=>absurd hk (Nat.not_lt_zero _)⟩,λ g hg hm=>h.block g hg (λ a ha p hp e=>hm (by rw [<- e];exact blkLs_mem ha hp))⟩
theorem Kp.only {L:List ZC} {w w':World} (h:Kp (blkLs L) w w'):X9 w w' L :=
 ⟨h.base.os,h.base.tape,h.base.output,h.base.size,λ k hk hn=>h.block k hk (YT hn)⟩
structure PulW (w:World) (gm gq:Nat) (M:Option Addr) (cm:Nat) (m:List Int) (d:Int):Prop where
 bm:Xv w gm 23 [.slice M m.length cm]
 bq:Xv w gq 3 [.int .i64 d]
 sl:Sl 1 KX w M m
theorem PulW.below {w w':World} {gm gq:Nat} {M:Option Addr} {cm:Nat} {m:List Int} {d:Int} (h:PulW w gm gq M cm m d) (hb:Below w.heap.size w w'):PulW w' gm gq M cm m d:=⟨h.bm.bel hb,h.bq.bel hb,h.sl.below hb⟩
theorem PulW.alloc {w:World} {gm gq:Nat} {M:Option Addr} {cm:Nat} {m:List Int} {d:Int} (h:PulW w gm gq M cm m d) (o:Obj):PulW (w.alloc o) gm gq M cm m d:=h.below (Xa bR o)
theorem optHalf_eq (x:Option Half):JQ x=.tuple #[Yf (x.getD Xb),.bool x.isSome]:=by cases x<;>rfl
theorem XI.kpN {α:Type} {T sz base n c:Nat} {enc:α->List Value} {M:List Nat} {w w':World} {A:Option Addr} {xs:List α} (h:XI T sz enc w base (.slice A n c) xs) (k:Kp M w w') (hA:∀ p,A=some p->p.block ∉ M):XI T sz enc w' base (.slice A n c) xs:=by
 obtain ⟨A',cap,e,h1,h2⟩:=h;refine ⟨A',cap,e,h1, ?_⟩;rcases h2 with h2|⟨q,cap',cur,hv,hg,hh,r⟩
 ·exact .inl h2
 ·have hA2:A=some ⟨q,0,none⟩:=by injection hv
  exact .inr ⟨q,cap',cur,hv,hg,(k.block q (YD hh) (hA _ hA2)).trans hh,r⟩
theorem apart2 {A B:ZC} (h:∀ p q,A.A=some p->B.A=some q->p.block≠q.block):List.Pairwise Jf [A,B]:=by
 simp only [List.pairwise_cons,List.mem_cons,List.not_mem_nil,or_false,forall_eq,List.Pairwise.nil,and_true];exact ⟨h,λ _ hf=>hf.elim⟩
theorem XS.nil (w:World) (base:Nat):XS w base ⟨[],[]⟩ ⟨⟨none,0⟩,⟨none,0⟩⟩ :=
 ⟨XI.nilN _ _ _ _ _,XI.nilN _ _ _ _ _,apart2 (λ p q hp _=>by cases hp)⟩
theorem newTyb {α:Type} {T sz base n c:Nat} {enc:α->List Value} {w:World} {A:Option Addr} {xs:List α} (h:XI T sz enc w base (.slice A n c) xs):∀ q,A=some q->∃ vs,Xv w q.block T vs:=by
 intro q hq;obtain ⟨A',c',e1,h1,h2⟩:=h;injection e1 with e1 _ _
 subst e1;rcases h2 with ⟨h2,_⟩|⟨g',cap',cur,hv,_,hh,_⟩
 ·rw [hq] at h2;cases h2
 ·rw [hq] at hv;injection hv with hv _ _
  injection hv with hv
  subst hv;exact ⟨cur.toList,by unfold Xv;simpa using hh⟩
section
variable {a:Act} {w:World} {N:Act->World->Prop} {Q:Exit->Act->World->Prop} {o:Oper} {x y:Operand} {T':TypeId}
end
def preE (r:XK) (p:List Half):List Half:=movR (KC r.noise) p
structure RoomR (r:XK):Prop where
 noise:Xc r.noise=true
 nne:r.noise≠[]
 limits:Xc r.limits=true
 lne:r.limits≠[]
theorem roomR {r:XK} (h:XG r=true):RoomR r:=by
 simp only [XG,Bool.and_eq_true] at h;obtain ⟨⟨⟨⟨_,h1⟩,h2⟩,h3⟩,h4⟩:=h;refine ⟨h3,λ e=>?_,h4,λ e=>?_⟩
 ·rw [e] at h1;cases h1
 ·rw [e] at h2;cases h2
theorem rp_eq {r:XK} {p:List Half} (hr:XG r=true) (hp:Xc p=true):rpOk r p=movOk (KC r.noise) p/\KP r p=preE r p:=by
 unfold rpOk KP preE;rw [hr,hp,if_pos ⟨rfl,rfl⟩];exact ⟨rfl,rfl⟩
structure PcB (a b c d:Int):Prop where
 fa : -10000000<=a/\a<=10000000
 fb : -10000000<=b/\b<=10000000
 fc : -10000000000<=c/\c<=10000000000
 fd : -10000000000<=d/\d<=10000000000
 nz:d≠0
theorem PcB.neg {a b c d:Int} (h:PcB a b c d):PcB (-a) (-b) (-c) (-d):=by
 have h1:=h.fa;have h2:=h.fb;have h3:=h.fc;have h4:=h.fd;have h5:=h.nz;exact ⟨by omega,by omega,by omega,by omega,by omega⟩
structure Ju where
 A:Option Addr
 n:Nat
 c:Nat
def Y5:Ju:=⟨none,0,0⟩
def J5 (e:Ju):List Value:=[.slice e.A e.n e.c]
theorem rgEC_len (e:Ju):(J5 e).length=1:=rfl
theorem rgEC_one (y:Ju):∀ u∈J5 y,u.oneCell'=true:=by
 intro u hu;rw [List.mem_singleton.1 hu];rfl
structure ZM (w:World) (base:Nat) (es:List Ju) (rs:List (List Half)):Prop where
 len:es.length=rs.length
 new:∀ i,i<rs.length->(es.getD i Y5).n=(rs.getD i []).length/\XI 85 3 Xe w base (.slice (es.getD i Y5).A (rs.getD i []).length (es.getD i Y5).c) (rs.getD i [])
 apart:∀ i j,i<j->j<rs.length->∀ p q,(es.getD i Y5).A=some p->(es.getD j Y5).A=some q->p.block<q.block
theorem ZM.nil (w:World) (base:Nat):ZM w base [] []:=⟨rfl,λ _ h=>absurd h (Nat.not_lt_zero _),λ _ _ _ h=>absurd h (Nat.not_lt_zero _)⟩
section
variable {w w':World} {base:Nat} {es:List Ju} {rs:List (List Half)}
theorem ZM.kp {M:List Nat} (h:ZM w base es rs) (k:Kp M w w') (hM:∀ m∈M,∀ vs,¬ Xv w m 85 vs):ZM w' base es rs :=
 ⟨h.len,λ i hi=>⟨(h.new i hi).1,(h.new i hi).2.kpN k (λ p hp hm=>by
  obtain ⟨vs,hv⟩:=newTyb (h.new i hi).2 p hp;exact hM _ hm vs hv)⟩,h.apart⟩
theorem ZM.below {B:Nat} (h:ZM w base es rs) (hb:Below B w w') (hB:w.heap.size<=B):ZM w' base es rs :=
 ⟨h.len,λ i hi=>⟨(h.new i hi).1,(h.new i hi).2.below hb hB⟩,h.apart⟩
theorem ZM.mono (h:ZM w base es rs) {b:Nat} (hb:b<=base):ZM w b es rs:=⟨h.len,λ i hi=>⟨(h.new i hi).1,(h.new i hi).2.mono hb⟩,h.apart⟩
theorem ZM.top (h:ZM w base es rs):∀ i,i<rs.length->∀ p,(es.getD i Y5).A=some p->p.block<w.heap.size:=λ i hi p hp=>((h.new i hi).2.blk p hp).2
theorem ZM.snoc {t c:Nat} {A:Option Addr} {xs:List Half} (h:ZM w base es rs) (ht:∀ i,i<rs.length->∀ p,(es.getD i Y5).A=some p->p.block<t) (hb:base<=t) (N:XI 85 3 Xe w t (.slice A xs.length c) xs):ZM w base (es++[⟨A,xs.length,c⟩]) (rs++[xs]):=by
 have hl:=h.len;have e1:∀ i,i<rs.length->(es++[(⟨A,xs.length,c⟩:Ju)]).getD i Y5=es.getD i Y5:=λ i hi=>by
  rw [List.getD_eq_getElem?_getD,List.getElem?_append_left (by omega),<- List.getD_eq_getElem?_getD]
 have e2:∀ i,i<rs.length->(rs++[xs]).getD i []=rs.getD i []:=λ i hi=>by
  rw [List.getD_eq_getElem?_getD,List.getElem?_append_left (by omega),<- List.getD_eq_getElem?_getD]
 have e3:(es++[(⟨A,xs.length,c⟩:Ju)]).getD rs.length Y5=⟨A,xs.length,c⟩:=by
  rw [List.getD_eq_getElem?_getD,List.getElem?_append_right (by omega),hl];simp
 have e4:(rs++[xs]).getD rs.length []=xs:=by
  rw [List.getD_eq_getElem?_getD,List.getElem?_append_right Xs];simp
 have hn:(rs++[xs]).length=rs.length+1:=by simp
 refine ⟨by rw [List.length_append,hn,hl];rfl,λ i hi=>?_,λ i j hij hj p q hp hq=>?_⟩
 ·rcases Nat.lt_or_ge i rs.length with h1|h1
  ·rw [e1 i h1,e2 i h1];exact h.new i h1
  ·obtain rfl:i=rs.length:=by omega
   rw [e3,e4];exact ⟨rfl,N.mono hb⟩
 ·rcases Nat.lt_or_ge j rs.length with h1|h1
  ·rw [e1 i (by omega)] at hp;rw [e1 j h1] at hq;exact h.apart i j hij h1 p q hp hq
  ·obtain rfl:j=rs.length:=by omega
   rw [e1 i (by omega)] at hp;rw [e3] at hq;have:=ht i (by omega) p hp;have:=(N.blk q hq).1;omega
end
theorem notH_box {w:World} {g T:Nat} {cs:List Value} (h:Xv w g T cs) (hT:T≠85):∀ vs,¬ Xv w g 85 vs:=λ _ hv=>h.ne hv hT rfl
theorem X8 {α:Type} {T sz base n c:Nat} {enc:α->List Value} {w:World} {A:Option Addr} {xs:List α} (h:XI T sz enc w base (.slice A n c) xs) (hT:T≠85):∀ m∈blkL A,∀ vs,¬ Xv w m 85 vs:=λ m hm=>by
 obtain ⟨p,hp,rfl⟩:=Yh hm;obtain ⟨us,hu⟩:=newTyb h p hp;exact notH_box hu hT
def Jq (w:World) (base:Nat) (v:Value) (rs:List (List Half)):Prop:=∃ es,XI 26 1 J5 w base v es/\ZM w base es rs
theorem Jq.nil (w:World) (base:Nat):Jq w base (.slice none 0 0) []:=⟨[],XI.nilN _ _ _ _ _,ZM.nil _ _⟩
end Go.Proofs.YtbekjpkcicjcgabGreat
