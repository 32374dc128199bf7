/-
 The tightest half planes in the order of their directions, of the reference.
 Conditions: valid half planes; the slice holds at most 2^20 elements.
-/
import Derived.Test.YtbekjpkcicjcgaaGreatGrJ
import Derived.Laws.AppendOwnNone
set_option maxHeartbeats 8000000
set_option maxRecDepth 100000
namespace Go.Proofs.YtbekjpkcicjcgaaGreat
open Go.RowKit
theorem wpList_app2 {α:Type} {T sz:Nat} {enc:α->List Value} (X5:∀ x,(enc x).length=sz) {P:Program} (w:World) {ops:Array Oper} {rest:List Oper} {o:Oper} {a:Act} {Q:Exit->Act->World->Prop} (hgd:o.guard=none) (s x:Operand) (t:TypeId)
 (ho:o.op=.call { callee:=.builtin .append,args:=#[s,x],argTypes:=#[t,t] })
 (base:Nat) (i:TypeInfo) (z:Value) (bytes:Nat) (ht:P.underlying t=some (.slice T)) (hi:P.info? T=some i) (hz:i.zero=some z)
 (hsize:i.size=sz) (hby:i.bytes=bytes) (hzs:z.cells.size=sz) (hpos:0<sz)
 {v:Value} {xs:List α} (hs:a.eval s=v) (hown:XI T sz enc w base v xs)
 (ad:Addr) (c:Nat) (hx:a.eval x=.slice (some ad) 1 c) (y:α) (hy:∀ j u,(enc y)[j]? = some u->w.cell? (ad.add j)=some u) (h1:∀ u∈enc y,u.oneCell'=true)
 {W0:World} (hb:Below base W0 w) (hbase:base<=w.heap.size) (hn:xs.length<=1073741823) (hbytes:bytes<=128)
 (h:∀ v' w',XI T sz enc w' base v' (xs++[y])->Below base W0 w'->w.grownBy w' v.ownBlock->wpList P ops Q rest (a.put o.dst v') w'):wpList P ops Q (o :: rest) a w:=by
 obtain ⟨A,cap,rfl,hr⟩:=hown;have hb2:(xs.length+1)*bytes<=1073741824*128:=Nat.mul_le_mul Oz hbytes;refine wpList_append_own w hgd s x t ho base T i z sz bytes ht hi hz hsize hby hzs hpos _ _ _ hs hr ad 1 c (enc y) hx (by rw [X5,Nat.one_mul]) hy h1 (by unfold maxLen;omega) Oz hbase ?_;intro v' w' hown' hg _;have hl:(xs++[y]).length=xs.length+1:=Sz
 have hf:(xs++[y]).flatMap enc=xs.flatMap enc++enc y:=Sz
 have hbl:=hb.grown hg hbase (λ k e=>(hr.lt k e).1);rcases hown'.2 with ⟨_,h0⟩|⟨g,cap',cur,rfl,hg1,r⟩
 ·omega
 ·exact h _ _ ⟨_,cap',by rw [hl],by rw [hl,hf];exact hown'⟩ hbl hg
def shL (out:List Half) (k:Nat):List Half:=out.take k++out.getD k Xa :: out.drop k
theorem shL_len {out:List Half} {k:Nat} (h:k<=out.length):(shL out k).length=out.length+1:=by
 simp [shL];omega
theorem shL_top (out:List Half):shL out out.length=out++[Xa]:=by
 unfold shL;rw [List.take_length,List.drop_length,List.getD_eq_getElem?_getD,List.getElem?_eq_none XE];rfl
theorem shL_set {out:List Half} {k:Nat} (h:Half) (hk:k<=out.length):(shL out k).set k h=out.take k++h :: out.drop k:=by
 unfold shL;rw [List.set_append_right _ _ (by rw [List.length_take];omega)];have:k-(out.take k).length=0:=by rw [List.length_take];omega
 rw [this];rfl
theorem shL_get {out:List Half} {k:Nat} (h0:k<out.length):(shL out (k+1)).getD k Xa=out.getD k Xa:=by
 unfold shL;rw [List.getD_eq_getElem?_getD,List.getD_eq_getElem?_getD,List.getElem?_append_left (by rw [List.length_take];omega),List.getElem?_take_of_lt Oz];first|rfl|(rw [List.getD_eq_getElem?_getD])
theorem shL_step {out:List Half} {k:Nat} (h0:k<out.length):(shL out (k+1)).set (k+1) (out.getD k Xa)=shL out k:=by
 rw [shL_set _ Oz];unfold shL;have e1:out.take (k+1)=out.take k++[out.getD k Xa]:=by rw [Zj out k h0,ZA h0]
 have e2:out.drop k=out.getD k Xa :: out.drop (k+1):=by rw [ZA h0];exact (List.drop_eq_getElem_cons h0)
 rw [e1,e2];simp
theorem has_of_heap {w:World} {g:Nat} {cs:Array Value} {T:TypeId} (h:w.heap[g]? = some (.cells cs T (0,0))):XV w g cs.toList :=
 ⟨YD h,λ j v hj=>⟨by rw [cell_of_row w g j cs T (0,0) h,<- Array.getElem?_toList];exact hj,frozen_of_row w g j cs T h⟩⟩
theorem XI.ne {T base g c n gx:Nat} {a b d:Int} {w:World} {xs:List Half} (N:XI T 3 Xd w base (.slice (some ⟨g,0,none⟩) n c) (xs++[Xa])) (hx:w.heap[gx]? = some (.cells #[.int .i64 a,.int .i64 b,.int .i64 d] T (0,0))) (hn:¬(a=0/\b=0)):g≠gx:=by
 rintro rfl;obtain ⟨A',cap',e,h1,h2⟩:=N;injection e with e1 e2 e3
 subst e1 e3;rcases h2 with ⟨_,h2⟩|⟨g',cap',cur,hv,hg,hh,hcap,hmax,hsize,htake⟩
 ·simp at h2
 ·injection hv with hA _ hc
  injection hA with hA
  injection hA with hA
  subst hA hc;rw [hx] at hh;injection hh with hh
  injection hh with hh
  subst hh;have h3:c=1:=by simp at hsize;omega
  have h4:xs=[]:=by
   apply List.eq_nil_of_length_eq_zero;simp only [List.length_append,List.length_cons,List.length_nil] at hcap;omega
  subst h4;have h5:(List.take 3 [Value.int .i64 a,.int .i64 b,.int .i64 d])=[Value.int .i64 0,.int .i64 0,.int .i64 0]:=htake;simp only [List.take_succ_cons,List.take_zero,List.cons.injEq,Value.int.injEq,true_and,and_true] at h5;exact hn ⟨h5.1,h5.2.1⟩
theorem sSorted_c (A:Option Addr) (hs:List Half) (cap:Nat) (w:World) (hl:hs.length<=1048576) (hok:∀ h∈hs,Xt h=true) (hsl:Sl 3 Xd w A hs) :
 Calls Tryz.prog 159 #[.slice A hs.length cap] w λ e w'=>∃ v,e=.returned v/\XI 136 3 Xd w' w.heap.size v (Y8 hs)/\Below w.heap.size w w':=by
 have HK:=Lib.hid hok;have HT:=Lib.hid (λ k=>gtight_ok (hs:=hs.take k) (λ h hh=>hok h (List.mem_of_mem_take hh)));have HL:=Lib.hid (λ k=>tight_len (hs.take k));have HS:=Lib.hid (λ k h=>@gtight_step hs k h);clear hok;obtain ⟨i0,hi0,hz0,hz1,hz2⟩:=info_parts (show (Tryz.prog.info? 136).map (λ i=>(i.zero,i.size,i.bytes))=some (some (.agg #[.int .i64 0,.int .i64 0,.int .i64 0]),3,24) by kernel_rfl);go_enter Tryz.func159,Tryz.ntmps159
 go_wp2
 go_loopw [3,5,6,7,11] (λ vo _ _ _ i wr=>∃ k:Nat,k<=hs.length/\i=.int .i64 k/\XI 136 3 Xd wr w.heap.size vo (Y8 (hs.take k))/\Below w.heap.size w wr) (λ _ _ _ _ i _=>hs.length-(intOf i).toNat)
 case atStart=>exact ⟨0,Nat.zero_le _,rfl,⟨_,0,rfl,by simp [Y8],.inr ⟨w.heap.size,0,#[],rfl,Nat.le_refl _,heap_alloc_new w _,Nat.le_refl _,Nat.zero_le _,rfl,rfl⟩⟩,Xc bR _⟩
 case round =>
  obtain ⟨k,hk,rfl,hN,hbr⟩:=hrel;by_cases hlt:k<hs.length
  ·obtain ⟨b,off,hA,hblt,hc⟩:=(hsl.below hbr).at_ hlt;have g0:=hc 0 _ rfl;have g1:=hc 1 _ rfl;have g2:=hc 2 _ rfl;simp only [Nat.add_zero] at g0;have hh:=HK.out _ (List.getElem_mem hlt);have hT:=HT.out k;have hln:(Y8 (hs.take k)).length<=1048576:=by
    have:=HL.out k;rw [List.length_take] at this;omega
   have hst:=Lib.hid (HS.out k hlt);have i1:(k:Int)<(hs.length:Int):=Oz
   have hln30:(Y8 (hs.take k)).length<=1073741823:=Oz
   have hhn:¬(hs[k].a=0/\hs[k].b=0):=(KS hh).n;clear hc;subst hA;obtain ⟨A2,c2,rfl,hr⟩:=hN;have hN:XI 136 3 Xd wr w.heap.size (.slice A2 (Y8 (hs.take k)).length c2) (Y8 (hs.take k)):=⟨A2,c2,rfl,hr⟩;have hown:=Lib.hid (λ q e=>(hr.lt q e).2);clear hr;generalize hG:Y8 (hs.take k)=out at *;clear hG;generalize hs[k]=h at *;have HX:=XV.new wr #[.int .i64 h.a,.int .i64 h.b,.int .i64 h.c] 136;replace hN:=hN.alloc (.cells #[.int .i64 h.a,.int .i64 h.b,.int .i64 h.c] 136);have hbr2:=Xc hbr (.cells #[.int .i64 h.a,.int .i64 h.b,.int .i64 h.c] 136);have hgx:w.heap.size<=wr.heap.size:=hbr.size;have hHX:=heap_alloc_new wr (.cells #[.int .i64 h.a,.int .i64 h.b,.int .i64 h.c] 136);have lgx:wr.heap.size<(wr.alloc (.cells #[.int .i64 h.a,.int .i64 h.b,.int .i64 h.c] 136)).heap.size:=Sz
   go_upto_region 5 with fail
   generalize hW:wr.alloc (.cells #[.int .i64 h.a,.int .i64 h.b,.int .i64 h.c] 136)=wa at *;clear hW g0 g1 g2 hblt;generalize wr.heap.size=gx at *;have hNS:=hN.out Xx;have hM:=Lib.hid (λ j hj hq=>@gins_at out h j hj hq);go_wp2
   go_loopw [6] (λ v6 wq=>∃ j:Nat,j<=out.length/\v6=.int .i64 j/\Hid (∀ q,q<j->ZU (out.getD q Xa) h=true)/\Below wa.heap.size wa wq) (λ v6 _=>out.length-(intOf v6).toNat)
   case atStart=>exact ⟨0,Nat.zero_le _,rfl,by simp [Hid],Below.refl _ _⟩
   case round =>
    obtain ⟨j,hj,rfl,hq,hbq⟩:=hrel;have hNq:=hN.below hbq XE;have HXq:=HX.below hbq;have hbrq:=Xe hbr2 hbq;have hHq:=(hbq.block gx lgx).trans hHX;have lgq:gx<wr.heap.size:=Nat.lt_of_lt_of_le lgx hbq.size;have lX:=HXq.1;obtain ⟨cHXq_0,fHXq_0⟩:=HXq.2 0 _ rfl;obtain ⟨cHXq_1,fHXq_1⟩:=HXq.2 1 _ rfl;obtain ⟨cHXq_2,fHXq_2⟩:=HXq.2 2 _ rfl;by_cases hlj:j<out.length
    ·obtain ⟨g,cur,hA2,hg1,hg2,hg3,hcap,hcs⟩:=hNq.row Oz;obtain ⟨b3,off3,hE,_,hc⟩:=(hNS.below hbq).at_ hlj;rw [hA2] at hE;cases hE;subst hA2;have g0:=hc 0 _ rfl;have g1:=hc 1 _ rfl;have g2:=hc 2 _ rfl;simp only [Nat.add_zero,Nat.zero_add] at g0 g1 g2;have hy:=hT _ (List.getElem_mem hlj);have hgj:=ZA hlj;have hm1:=(hM.out j hj hq.out).2 hlj;rw [hgj] at hm1;have hq1:=Lib.hid (λ(e:ZU out[j] h=true)=>show ∀ q,q<j+1->ZU (out.getD q Xa) h=true from by
      intro q h1;rcases Nat.lt_or_ge q j with h2|h2
      ·exact hq.out q h2
      ·obtain rfl:q=j:=Oz
       rw [hgj];exact e)
     have i2:(j:Int)<(out.length:Int):=Oz
     have hS3:=Lib.hid (λ(w':World) (hn:XI 136 3 Xd w' w.heap.size (.slice (some ⟨g,0,none⟩) out.length c2) out) (y:Half)=>XI.set3 (y:=y) hn hlj);clear hc hgj hq;generalize out[j]=y at *;have c1:=λ W=>sBef_c y h W hy hh;have c2':=λ W=>sSame_c y h W hy hh;have c3:=λ W e=>sTighter_c y h W hy hh e;cases hb:ZU y h
     ·rw [hb] at c1;have hm2:=hm1 hb;clear hm1 hq1;cases hs2:Yo y h
      ·rw [hs2] at c2';have hg5:=Lib.hid (hm2.2 hs2);clear hm2 c3;go_wp2
       go_region_held3 (λ w'=>(∀ b o,b<wr.heap.size->w'.cell? ⟨b,o,none⟩=wr.cell? ⟨b,o,none⟩)/\wr.heap.size<=w'.heap.size) (first|exact ⟨λ _ _ _=>rfl,by simp⟩|exact Yw (by assumption) (by assumption)|(repeat (first|(with_reducible assumption)|(with_reducible refine Zb _ ?_)|(with_reducible refine Zc ?_)|(with_reducible refine YH ?_ _)|(with_reducible refine ZT ?_ ?_ _)|(focus (simp;done))|(focus (simp;omega))|(focus omega))))
        (first|(go_at_call 180;go_must ((with_reducible refine (c1 _).mono ?_);rintro e w1 ⟨rfl,hb1⟩)))
       rename_i hheld
       clear hheld;have B1:Below wr.heap.size wr w1:=by exact Xl
       have r1:=Xh B1;have l1:=blt B1 lX;have l2:=blt B1 hg2;have hN1:=hNq.below B1 XE;have hb1r:=Xe hbrq B1;go_upto_region 8 with fail
       have HX1:=HXq.below B1;have k0:w1.cell? ⟨g,j*3,none⟩=_:=(r1 _ _ hg2).trans g0;have k1:w1.cell? ⟨g,j*3+1,none⟩=_:=(r1 _ _ hg2).trans g1;have k2:w1.cell? ⟨g,j*3+2,none⟩=_:=(r1 _ _ hg2).trans g2;clear r1 cHXq_0 cHXq_1 cHXq_2 fHXq_0 fHXq_1 fHXq_2 g0 g1 g2;obtain ⟨cHX1_0,fHX1_0⟩:=HX1.2 0 _ rfl;obtain ⟨cHX1_1,fHX1_1⟩:=HX1.2 1 _ rfl;obtain ⟨cHX1_2,fHX1_2⟩:=HX1.2 2 _ rfl;go_region_held3 (λ w'=>(∀ b o,b<w1.heap.size->w'.cell? ⟨b,o,none⟩=w1.cell? ⟨b,o,none⟩)/\w1.heap.size<=w'.heap.size) (first|exact ⟨λ _ _ _=>rfl,by simp⟩|exact Yw (by assumption) (by assumption)|(repeat (first|(with_reducible assumption)|(with_reducible refine Zb _ ?_)|(with_reducible refine Zc ?_)|(with_reducible refine YH ?_ _)|(with_reducible refine ZT ?_ ?_ _)|(focus (simp;done))|(focus (simp;omega))|(focus omega))))
        (first|(go_at_call 181;go_must ((with_reducible refine (c2' _).mono ?_);rintro e w2 ⟨rfl,hb2⟩)))
       rename_i hheld
       clear hheld;have B2:Below w1.heap.size w1 w2:=by exact Xl
       have hN2:=hN1.below B2 XE;have hb2r:=Xe hb1r B2;have hH2:=(B2.block gx (Nat.lt_of_lt_of_le lgq B1.size)).trans ((B1.block gx lgq).trans hHq);have lg2:gx<w2.heap.size:=Nat.lt_of_lt_of_le lgq (Nat.le_trans B1.size B2.size);have r2:=Xh B2;have l3:=blt B2 l1;have HX2:=HX1.below B2;clear cHX1_0 cHX1_1 cHX1_2 fHX1_0 fHX1_1 fHX1_2 r2 k0 k1 k2;obtain ⟨cHX2_0,fHX2_0⟩:=HX2.2 0 _ rfl;obtain ⟨cHX2_1,fHX2_1⟩:=HX2.2 1 _ rfl;obtain ⟨cHX2_2,fHX2_2⟩:=HX2.2 2 _ rfl;go_wp2_with (at_builtin;refine wpList_app2 Xx _ rfl _ _ 24 rfl w.heap.size i0 _ 24 Tryz.underlying24 hi0 hz0 hz1 hz2 rfl (by decide) rfl (XI.alloc hN2 _) _ 1 rfl Xa ?c1 (YE Xa) (Xc hb2r _) (Xc hb2r _).size hln30 (by decide) ?_)
       case c1 =>
        intro q u hu;rw [Addr.add_lit,Nat.zero_add];exact ((XV.new_at Sz #[.int .i64 0,.int .i64 0,.int .i64 0] _ rfl).2 q u hu).1
       ·intro v5 w4 hn4 hb4 hg4;have hx4:w4.heap[gx]? = some (.cells #[.int .i64 h.a,.int .i64 h.b,.int .i64 h.c] 136 (0,0)):=by
         refine (hg4.block gx (by first|(simp;omega)|omega) (λ e=>?_)).trans ?_
         ·have:=hown.out gx e.symm;omega
         ·exact ((bR.alloc XE _).block gx (by first|(simp;omega)|omega)).trans hH2
        obtain ⟨A5,c5,rfl,hr5⟩:=hn4;have N5:XI 136 3 Xd w4 w.heap.size (.slice A5 (out++[Xa]).length c5) (out++[Xa]):=⟨A5,c5,rfl,hr5⟩;obtain ⟨g5,cur5,rfl,hg51,hg52,_,_,_⟩:=N5.row Sz;have hne5:=N5.ne hx4 hhn;have K5:XV w4 gx [.int .i64 h.a,.int .i64 h.b,.int .i64 h.c]:=has_of_heap hx4;rw [<- shL_top out] at N5;rw [shL_len XE] at N5;have hl5:(out++[Xa]).length=out.length+1:=Sz
        rw [hl5];clear hr5 hg4 hx4 hl5;go_wp2
        go_loopw [7] (λ v7 wz=>∃ q:Nat,j<=q/\q<=out.length/\v7=.int .i64 q/\XI 136 3 Xd wz w.heap.size (.slice (some ⟨g5,0,none⟩) (out.length+1) c5) (shL out q)/\XV wz gx [.int .i64 h.a,.int .i64 h.b,.int .i64 h.c]/\Below w.heap.size w wz) (λ v7 _=>(intOf v7).toNat)
        case atStart=>exact ⟨out.length,(Nat.le_of_lt hlj),Nat.le_refl _,rfl,N5,K5,hb4⟩
        case round =>
         clear K5 N5 hb4;obtain ⟨q,hq1,hq2,rfl,N5,K5,hb4⟩:=hrel;by_cases hqj:j<q
         ·obtain ⟨p,rfl⟩:∃ p,q=p+1:=⟨q-1,Oz⟩;have hp:p<out.length:=Oz
          have hsl2:=shL_len hq2;have N6:XI 136 3 Xd wr w.heap.size (.slice (some ⟨g5,0,none⟩) (shL out (p+1)).length c5) (shL out (p+1)):=by rw [hsl2];exact N5
          obtain ⟨g6,cur6,hA6,hg61,hg62,hg63,_,_⟩:=N6.row Oz;cases hA6;have hlp:p<(shL out (p+1)).length:=Oz
          have hlp1:p+1<(shL out (p+1)).length:=Oz
          obtain ⟨b6,o6,hE6,_,hc6⟩:=(N6.out Xx).at_ hlp;cases hE6;obtain ⟨b7,o7,hE7,_,hc7⟩:=(N6.out Xx).at_ hlp1;cases hE7;have hgp:(shL out (p+1))[p]=out.getD p Xa:=by rw [<- ZA hlp,shL_get hp]
          rw [hgp] at hc6;have m0:=hc6 0 _ rfl;have m1:=hc6 1 _ rfl;have m2:=hc6 2 _ rfl;have n0:=hc7 0 _ rfl;have n1:=hc7 1 _ rfl;have n2:=hc7 2 _ rfl;simp only [Nat.add_zero,Nat.zero_add] at m0 m1 m2 n0 n1 n2;have z0:=λ m=>frozen_of_row wr g5 m cur6 _ hg63;have N7:=XI.set3 (y:=out.getD p Xa) N6 hlp1;rw [shL_step hp,hsl2] at N7;have K7:=((K5.set_ (p:=⟨g5,(p+1)*3,none⟩) hne5 (.int .i64 (out.getD p Xa).a)).set_ (p:=⟨g5,(p+1)*3+1,none⟩) hne5 (.int .i64 (out.getD p Xa).b)).set_ (p:=⟨g5,(p+1)*3+2,none⟩) hne5 (.int .i64 (out.getD p Xa).c);have hb7:=((hb4.setCell (p:=⟨g5,(p+1)*3,none⟩) hg61 (.int .i64 (out.getD p Xa).a)).setCell (p:=⟨g5,(p+1)*3+1,none⟩) hg61 (.int .i64 (out.getD p Xa).b)).setCell (p:=⟨g5,(p+1)*3+2,none⟩) hg61 (.int .i64 (out.getD p Xa).c);have i5:(0:Int)<=(p:Int):=Oz
          have i6:(p:Int)<(out.length:Int)+1:=Oz
          have i7:(p:Int)+1<(out.length:Int)+1:=Oz
          have i8:(j:Int)<(p:Int)+1:=Oz
          have i9:((p:Int)+1).toNat=p+1:=Oz
          have i10:((p+1:Nat):Int)=(p:Int)+1:=Oz
          clear hc6 hc7 hgp hsl2 N6 N5 K5 hg63;rw [i10];generalize out.getD p Xa=yy at m0 m1 m2 N7 K7 hb7;go_wp2
          go_roundw
          case rel=>exact ⟨p,by omega,by omega,by go_num,N7,K7,hb7⟩
          case measure=>first|(simp [intOf];done)|(simp [intOf];omega)
         ·obtain rfl:j=q:=Oz
          have hsl2:=shL_len hq2;have N6:XI 136 3 Xd wr w.heap.size (.slice (some ⟨g5,0,none⟩) (shL out j).length c5) (shL out j):=by rw [hsl2];exact N5
          obtain ⟨g6,cur6,hA6,hg61,hg62,hg63,_,_⟩:=N6.row Oz;cases hA6;have hlp1:j<(shL out j).length:=Oz
          obtain ⟨b7,o7,hE7,_,hc7⟩:=(N6.out Xx).at_ hlp1;cases hE7;have n0:=hc7 0 _ rfl;have n1:=hc7 1 _ rfl;have n2:=hc7 2 _ rfl;simp only [Nat.add_zero,Nat.zero_add] at n0 n1 n2;have z0:=λ m=>frozen_of_row wr g5 m cur6 _ hg63;have N7:=XI.set3 (y:=h) N6 hlp1;rw [shL_set h hq2,hsl2] at N7;have hb7:=((hb4.setCell (p:=⟨g5,j*3,none⟩) hg61 (.int .i64 h.a)).setCell (p:=⟨g5,j*3+1,none⟩) hg61 (.int .i64 h.b)).setCell (p:=⟨g5,j*3+2,none⟩) hg61 (.int .i64 h.c);have i6:(j:Int)<(out.length:Int)+1:=Oz
          have lK:=K5.1;obtain ⟨cK5_0,fK5_0⟩:=K5.2 0 _ rfl;obtain ⟨cK5_1,fK5_1⟩:=K5.2 1 _ rfl;obtain ⟨cK5_2,fK5_2⟩:=K5.2 2 _ rfl;clear hc7 hsl2 N6 N5 hg63;go_wp2
          go_roundw
          case rel=>exact ⟨k+1,by omega,by go_num,by rw [hst.out,hg5.out];exact N7,hb7⟩
          case measure=>simp [intOf];omega
      ·rw [hs2] at c2';have hg5:=Lib.hid (hm2.1 hs2);replace c3:=λ W=>c3 W hs2;clear hm2;go_wp2
       go_region_held3 (λ w'=>(∀ b o,b<wr.heap.size->w'.cell? ⟨b,o,none⟩=wr.cell? ⟨b,o,none⟩)/\wr.heap.size<=w'.heap.size) (first|exact ⟨λ _ _ _=>rfl,by simp⟩|exact Yw (by assumption) (by assumption)|(repeat (first|(with_reducible assumption)|(with_reducible refine Zb _ ?_)|(with_reducible refine Zc ?_)|(with_reducible refine YH ?_ _)|(with_reducible refine ZT ?_ ?_ _)|(focus (simp;done))|(focus (simp;omega))|(focus omega))))
        (first|(go_at_call 180;go_must ((with_reducible refine (c1 _).mono ?_);rintro e w1 ⟨rfl,hb1⟩)))
       rename_i hheld
       clear hheld;have B1:Below wr.heap.size wr w1:=by exact Xl
       have r1:=Xh B1;have l1:=blt B1 lX;have l2:=blt B1 hg2;have hN1:=hNq.below B1 XE;have hb1r:=Xe hbrq B1;go_upto_region 8 with fail
       have HX1:=HXq.below B1;have k0:w1.cell? ⟨g,j*3,none⟩=_:=(r1 _ _ hg2).trans g0;have k1:w1.cell? ⟨g,j*3+1,none⟩=_:=(r1 _ _ hg2).trans g1;have k2:w1.cell? ⟨g,j*3+2,none⟩=_:=(r1 _ _ hg2).trans g2;clear r1 cHXq_0 cHXq_1 cHXq_2 fHXq_0 fHXq_1 fHXq_2 g0 g1 g2;obtain ⟨cHX1_0,fHX1_0⟩:=HX1.2 0 _ rfl;obtain ⟨cHX1_1,fHX1_1⟩:=HX1.2 1 _ rfl;obtain ⟨cHX1_2,fHX1_2⟩:=HX1.2 2 _ rfl;go_region_held3 (λ w'=>(∀ b o,b<w1.heap.size->w'.cell? ⟨b,o,none⟩=w1.cell? ⟨b,o,none⟩)/\w1.heap.size<=w'.heap.size) (first|exact ⟨λ _ _ _=>rfl,by simp⟩|exact Yw (by assumption) (by assumption)|(repeat (first|(with_reducible assumption)|(with_reducible refine Zb _ ?_)|(with_reducible refine Zc ?_)|(with_reducible refine YH ?_ _)|(with_reducible refine ZT ?_ ?_ _)|(focus (simp;done))|(focus (simp;omega))|(focus omega))))
        (first|(go_at_call 181;go_must ((with_reducible refine (c2' _).mono ?_);rintro e w2 ⟨rfl,hb2⟩)))
       rename_i hheld
       clear hheld;have B2:Below w1.heap.size w1 w2:=by exact Xl
       have hN2:=hN1.below B2 XE;have hb2r:=Xe hb1r B2;have r2:=Xh B2;have l3:=blt B2 l1;have l4:=blt B2 l2;have HX2:=HX1.below B2;have q0:w2.cell? ⟨g,j*3,none⟩=_:=(r2 _ _ l2).trans k0;have q1:w2.cell? ⟨g,j*3+1,none⟩=_:=(r2 _ _ l2).trans k1;have q2:w2.cell? ⟨g,j*3+2,none⟩=_:=(r2 _ _ l2).trans k2;obtain ⟨_,cur2,hA3,_,_,hg6,_,hcs6⟩:=hN2.row (by omega);cases hA3;have z0:=λ m=>frozen_of_row w2 g m cur2 _ hg6;clear r2 cHX1_0 cHX1_1 cHX1_2 fHX1_0 fHX1_1 fHX1_2 k0 k1 k2 HX1 hg6 hcs6 hg3 hcs;obtain ⟨cHX2_0,fHX2_0⟩:=HX2.2 0 _ rfl;obtain ⟨cHX2_1,fHX2_1⟩:=HX2.2 1 _ rfl;obtain ⟨cHX2_2,fHX2_2⟩:=HX2.2 2 _ rfl;go_upto_region 9 with fail
       clear c1 c2' hT HXq HX B1 B2 hb1 hb2 hbq hb1r hN1 hNq hN hNS hbr2 hbr;generalize htt:Zu y h=t at *;clear htt;go_region_with ((go_at_call 182;go_must (refine (c3 _).mono ?_;rintro e w3 ⟨rfl,hb3⟩;have r3:=Xh hb3;have f3:=(bcell hb3).2;have x0:w3.cell? ⟨g,j*3,none⟩=_:=(r3 _ _ (by simpa using l4)).trans q0;have x1:w3.cell? ⟨g,j*3+1,none⟩=_:=(r3 _ _ (by simpa using l4)).trans q1;have x2:w3.cell? ⟨g,j*3+2,none⟩=_:=(r3 _ _ (by simpa using l4)).trans q2;have y0:w3.frozen? ⟨g,j*3,none⟩=false:=(f3 _ _ (by simpa using l4)).trans (z0 _);have y1:w3.frozen? ⟨g,j*3+1,none⟩=false:=(f3 _ _ (by simpa using l4)).trans (z0 _);have y2:w3.frozen? ⟨g,j*3+2,none⟩=false:=(f3 _ _ (by simpa using l4)).trans (z0 _);clear r3 f3)))
       all_goals
        have hN3:=XI.below (w:=w2.drew) hN2 hb3 XE;have hN4:=hS3.out w3 hN3 t;have hb3r:Below w.heap.size w w3:=Xe (Below.drew hb2r) hb3;have hbz:=((hb3r.setCell (p:=⟨g,j*3,none⟩) hg1 (.int .i64 t.a)).setCell (p:=⟨g,j*3+1,none⟩) hg1 (.int .i64 t.b)).setCell (p:=⟨g,j*3+2,none⟩) hg1 (.int .i64 t.c);clear x0 x1 x2 y0 y1 y2 q0 q1 q2 z0;go_wp2
        go_roundw
        case rel=>exact ⟨k+1,by omega,by go_num,by rw [hst.out,hg5.out];exact hN4,hbz⟩
        case measure=>simp [intOf];omega
     ·rw [hb] at c1;have hq2:=Lib.hid (hq1.out hb);clear hm1 hq1 c2' c3;go_wp2
      go_region_held3 (λ w'=>(∀ b o,b<wr.heap.size->w'.cell? ⟨b,o,none⟩=wr.cell? ⟨b,o,none⟩)/\wr.heap.size<=w'.heap.size) (first|exact ⟨λ _ _ _=>rfl,by simp⟩|exact Yw (by assumption) (by assumption)|(repeat (first|(with_reducible assumption)|(with_reducible refine Zb _ ?_)|(with_reducible refine Zc ?_)|(with_reducible refine YH ?_ _)|(with_reducible refine ZT ?_ ?_ _)|(focus (simp;done))|(focus (simp;omega))|(focus omega))))
       (first|(go_at_call 180;go_must ((with_reducible refine (c1 _).mono ?_);rintro e w1 ⟨rfl,hb1⟩)))
      have B1:Below wr.heap.size wr w1:=by exact Xl
      go_wp2
      go_roundw
      case rel=>exact ⟨j+1,by omega,by go_num,hq2,Xe hbq B1⟩
      case measure=>simp [intOf];omega
    ·obtain rfl:j=out.length:=Oz
     have hg5:=Lib.hid ((hM.out out.length hj hq.out).1 rfl);clear hq;go_wp2
     go_big_quiet (fail)
     go_wp2
     go_big_quiet (fail)
     go_wp2_with (at_builtin;refine wpList_app2 Xx _ rfl _ _ 24 rfl w.heap.size i0 _ 24 Tryz.underlying24 hi0 hz0 hz1 hz2 rfl (by decide) rfl (XI.alloc (w:=wr.drewN _) hNq _) _ 1 rfl Xa ?c1 (YE Xa) (Xc (YQ hbrq _) _) (Xc (YQ hbrq _) _).size hln30 (by decide) ?_)
     case c1 =>
      intro q u hu;rw [Addr.add_lit,Nat.zero_add];exact ((XV.new_at Sz #[.int .i64 0,.int .i64 0,.int .i64 0] _ rfl).2 q u hu).1
     ·intro v5 w4 hn4 hb4 hg4;have hx4:w4.heap[gx]? = some (.cells #[.int .i64 h.a,.int .i64 h.b,.int .i64 h.c] 136 (0,0)):=by
       refine (hg4.block gx (by first|(simp;omega)|omega) (λ e=>?_)).trans ?_
       ·have:=hown.out gx e.symm;omega
       ·exact ((bR.alloc XE _).block gx (by first|(simp;omega)|omega)).trans hHq
      obtain ⟨A5,c5,rfl,hr5⟩:=hn4;have N5:XI 136 3 Xd w4 w.heap.size (.slice A5 (out++[Xa]).length c5) (out++[Xa]):=⟨A5,c5,rfl,hr5⟩;obtain ⟨g5,cur5,rfl,hg51,hg52,_,_,_⟩:=N5.row Sz;have hne5:=N5.ne hx4 hhn;have K5:XV w4 gx [.int .i64 h.a,.int .i64 h.b,.int .i64 h.c]:=has_of_heap hx4;rw [<- shL_top out] at N5;rw [shL_len XE] at N5;have hl5:(out++[Xa]).length=out.length+1:=Sz
      rw [hl5];clear hr5 hg4 hx4 hl5;go_wp2
      go_loopw [7] (λ v7 wz=>∃ q:Nat,out.length<=q/\q<=out.length/\v7=.int .i64 q/\XI 136 3 Xd wz w.heap.size (.slice (some ⟨g5,0,none⟩) (out.length+1) c5) (shL out q)/\XV wz gx [.int .i64 h.a,.int .i64 h.b,.int .i64 h.c]/\Below w.heap.size w wz) (λ v7 _=>(intOf v7).toNat)
      case atStart=>exact ⟨out.length,XE,Nat.le_refl _,rfl,N5,K5,hb4⟩
      case round =>
       clear K5 N5 hb4;obtain ⟨q,hq1,hq2,rfl,N5,K5,hb4⟩:=hrel;by_cases hqj:out.length<q
       ·omega
       ·obtain rfl:out.length=q:=Oz
        have hsl2:=shL_len hq2;have N6:XI 136 3 Xd wr w.heap.size (.slice (some ⟨g5,0,none⟩) (shL out out.length).length c5) (shL out out.length):=by rw [hsl2];exact N5
        obtain ⟨g6,cur6,hA6,hg61,hg62,hg63,_,_⟩:=N6.row Oz;cases hA6;have hlp1:out.length<(shL out out.length).length:=Oz
        obtain ⟨b7,o7,hE7,_,hc7⟩:=(N6.out Xx).at_ hlp1;cases hE7;have n0:=hc7 0 _ rfl;have n1:=hc7 1 _ rfl;have n2:=hc7 2 _ rfl;simp only [Nat.add_zero,Nat.zero_add] at n0 n1 n2;have z0:=λ m=>frozen_of_row wr g5 m cur6 _ hg63;have N7:=XI.set3 (y:=h) N6 hlp1;rw [shL_set h hq2,hsl2] at N7;have hb7:=((hb4.setCell (p:=⟨g5,out.length*3,none⟩) hg61 (.int .i64 h.a)).setCell (p:=⟨g5,out.length*3+1,none⟩) hg61 (.int .i64 h.b)).setCell (p:=⟨g5,out.length*3+2,none⟩) hg61 (.int .i64 h.c);have i6:(out.length:Int)<(out.length:Int)+1:=Oz
        have lK:=K5.1;obtain ⟨cK5_0,fK5_0⟩:=K5.2 0 _ rfl;obtain ⟨cK5_1,fK5_1⟩:=K5.2 1 _ rfl;obtain ⟨cK5_2,fK5_2⟩:=K5.2 2 _ rfl;clear hc7 hsl2 N6 N5 hg63;go_wp2
        go_roundw
        case rel=>exact ⟨k+1,by omega,by go_num,by rw [hst.out,hg5.out];exact N7,hb7⟩
        case measure=>simp [intOf];omega
  ·obtain rfl:k=hs.length:=Oz
   rw [List.take_length] at hN;go_wp2
   go_ret
   exact ⟨_,rfl,hN,hbr⟩
theorem XI.mk' {α:Type} {T sz base n:Nat} {enc:α->List Value} {w:World} {v:Value} {xs:List α} (hn:n=xs.length) (h:w.ownsRow base T sz v n (xs.flatMap enc)):XI T sz enc w base v xs:=by
 subst hn;rcases h.2 with ⟨e,h0⟩|⟨g,cap',cur,e,r⟩
 ·exact ⟨none,0,by rw [h0];exact e,h⟩
 ·exact ⟨_,cap',e,h⟩
theorem Ku {α:Type} {T sz:Nat} {enc:α->List Value} (X5:∀ x,(enc x).length=sz) {P:Program} (w:World) {ops:Array Oper} {rest:List Oper} {o:Oper} {a:Act} {Q:Exit->Act->World->Prop} (hgd:o.guard=none) (s x:Operand) (t:TypeId)
 (ho:o.op=.call { callee:=.builtin .append,args:=#[s,x],argTypes:=#[t,t] })
 (base:Nat) (i:TypeInfo) (z:Value) (bytes:Nat) (ht:P.underlying t=some (.slice T)) (hi:P.info? T=some i) (hz:i.zero=some z)
 (hsize:i.size=sz) (hby:i.bytes=bytes) (hzs:z.cells.size=sz) (hpos:0<sz)
 {v:Value} {xs ys:List α} (hs:a.eval s=v) (hown:XI T sz enc w base v xs)
 (B:Option Addr) (c:Nat) (hx:a.eval x=.slice B ys.length c) (hys:Sl sz enc w B ys) (hnil:B=none->c=0) (h1:∀ y,∀ u∈enc y,u.oneCell'=true)
 {W0:World} (hb:Below base W0 w) (hbase:base<=w.heap.size) (hn:xs.length+ys.length<=1073741824) (hbytes:bytes<=128)
 (h:∀ v' w',XI T sz enc w' base v' (xs++ys)->Below base W0 w'->wpList P ops Q rest (a.put o.dst v') w'):wpList P ops Q (o :: rest) a w:=by
 obtain ⟨A,cap,rfl,hr⟩:=hown;have hb2:(xs.length+ys.length)*bytes<=1073741824*128:=Nat.mul_le_mul hn hbytes;have hl:(xs++ys).length=xs.length+ys.length:=List.length_append;have hf:(xs++ys).flatMap enc=xs.flatMap enc++ys.flatMap enc:=List.flatMap_append;have go:∀ ad:Addr,B=some ad->(∀ j u,(ys.flatMap enc)[j]? = some u->w.cell? (ad.add j)=some u)->wpList P ops Q (o :: rest) a w:=by
  intro ad hB hc;subst hB;refine wpList_append_own w hgd s x t ho base T i z sz bytes ht hi hz hsize hby hzs hpos _ _ _ hs hr ad ys.length c (ys.flatMap enc) hx (YI X5 ys) hc (λ u hu=>by
   obtain ⟨y,_,hy⟩:=List.mem_flatMap.1 hu;exact h1 y u hy) (by unfold maxLen;omega) Oz hbase ?_
  intro v' w' hown' hg _;have hbl:=hb.grown hg hbase (λ k e=>(hr.lt k e).1);rw [<- hf] at hown';exact h _ _ (XI.mk' hl.symm hown') hbl
 by_cases h0:ys.length=0
 ·have hy:ys=[]:=List.eq_nil_of_length_eq_zero h0;subst hy;cases B with
  | none =>
   have hc0:=hnil rfl;subst hc0;refine wpList_append_own_none hgd s x t ho base T i sz ht hi _ _ _ hs hr hx ?_;exact h _ _ (XI.mk' (n:=xs.length) Sz (by simpa using hr)) hb
  | some ad=>exact go ad rfl (λ j u hu=>by simp at hu)
 ·obtain ⟨b,off,hB,_,hc⟩:=hys Oz;refine go ⟨b,off,none⟩ hB (λ j u hu=>?_);rw [Addr.add_lit];have hjl:j<ys.length*sz:=by
   rw [<- YI X5 ys];rcases Nat.lt_or_ge j (ys.flatMap enc).length with h3|h3
   ·exact h3
   ·rw [List.getElem?_eq_none h3] at hu;cases hu
  have hq:j / sz<ys.length:=Nat.div_lt_of_lt_mul (by rw [Nat.mul_comm];exact hjl);have hm:j % sz<sz:=Nat.mod_lt _ hpos;have hjj:j / sz*sz+j % sz=j:=by rw [Nat.mul_comm];exact Nat.div_add_mod j sz
  have hu2:(enc ys[j / sz])[j % sz]? = some ((enc ys[j / sz])[j % sz]'(by rw [X5];exact hm)):=List.getElem?_eq_getElem _;have h4:=Kz X5 ys _ hq _ _ hu2;rw [hjj,hu] at h4;have h5:=hc _ hq _ _ hu2;rw [Nat.add_assoc,hjj,<- h4] at h5;exact h5
theorem grow_c (n:Nat) (w:World) (h0:0<n) (hn:n<=4194304) :
 Calls Tryz.prog 187 #[.slice none 0 0,.int .i64 n] w λ e w'=>∃ v,e=.returned v/\XI 136 3 Xd w' w.heap.size v []/\Below w.heap.size w w':=by
 obtain ⟨i0,hi0,hz0,hz1,hz2⟩:=info_parts (show (Tryz.prog.info? 136).map (λ i=>(i.zero,i.size,i.bytes))=some (some (.agg #[.int .i64 0,.int .i64 0,.int .i64 0]),3,24) by kernel_rfl);have mixed:Tryz.prog.follows Departure.mixedOrders=true:=by kernel_rfl
 have hrz:∀ ty,(Builtin.append_ #[24,3] ty #[.slice none 0 0,.int .i64 (n:Int)]).run Tryz.prog w =
  .ok (.slice (some ⟨w.heap.size,0,none⟩) n (grownCap w n 0 136))
   (w.drew.alloc (.cells (([]:List Value).toArray++Builtin.zeroCells (Value.agg #[.int .i64 0,.int .i64 0,.int .i64 0]).cells n++Builtin.zeroCells (Value.agg #[.int .i64 0,.int .i64 0,.int .i64 0]).cells (grownCap w n 0 136-n)) 136)):=λ ty=>by
  have h1:=Lib.run_append_grow_zeros w 24 3 ty 136 i0 _ .i64 .i64 Tryz.underlying24 Tryz.underlying3 hi0 hz0 none 0 0 [] (run_firstCells_none w.drew i0.size 0 0 0) n h0 Oz Oz Oz (by rw [hz2];omega) (by rw [hz2,Nat.zero_add];exact growslice_fits Oz Oz);rw [Nat.zero_add] at h1;exact h1
 obtain ⟨C,hC⟩:∃ C,C=grownCap w n 0 136:=⟨_,rfl⟩;have hC1:n<=C:=by rw [hC];exact grownCap_ge _ _ _ _
 have hC2:C<=maxLen:=by rw [hC];exact grownCap_le_maxLen _ _ _ _ (by unfold maxLen;omega)
 rw [<- hC] at hrz;obtain ⟨ROW,hROW⟩:∃ ROW:Array Value,ROW=([]:List Value).toArray++Builtin.zeroCells (Value.agg #[.int .i64 0,.int .i64 0,.int .i64 0]).cells n++Builtin.zeroCells (Value.agg #[.int .i64 0,.int .i64 0,.int .i64 0]).cells (C-n):=⟨_,rfl⟩;have hRs:ROW.size=C*3:=by
  rw [hROW];simp only [Array.size_append,Builtin.zeroCells,Value.cells,Array.size_map,Array.size_range,List.size_toArray,List.length_cons,List.length_nil];omega
 rw [<- hROW] at hrz;have hnew:XI 136 3 Xd (w.drew.alloc (.cells ROW 136)) w.heap.size (.slice (some ⟨w.heap.size,0,none⟩) 0 C) [] :=
  ⟨_,C,rfl,Sz,.inr ⟨w.heap.size,C,ROW,rfl,Nat.le_refl _,heap_alloc_new w.drew _,Nat.zero_le _,hC2,hRs,Sz⟩⟩
 have hbel:Below w.heap.size w (w.drew.alloc (.cells ROW 136)):=bR.drew.alloc XE _;obtain ⟨W,hW⟩:∃ W,W=w.drew.alloc (.cells ROW 136):=⟨_,rfl⟩;rw [<- hW] at hrz hnew hbel;have hnew':=Lib.hid hnew;have hbel':=Lib.hid hbel;clear hnew hbel hW hROW hRs hC;have e1:¬ (C=0):=Oz
 have e2:(0:Int)<=(C:Int):=Oz
 have e3:(0:Int)<(n:Int):=Oz
 go_enter Tryz.func187,Tryz.ntmps187
 go_wp2_with (at_builtin;refine Lib.wpList_append_run _ rfl _ _ _ _ rfl _ _ rfl rfl _ _ (hrz _) ?_)
 go_ret
 exact ⟨_,rfl,hnew'.out,hbel'.out⟩
theorem concat_c (A B:Option Addr) (xs ys:List Half) (ca cb gv:Nat) (w:World) (h0:0<xs.length) (hx:xs.length<=1048576) (hy:ys.length<=1048576) (hA:Sl 3 Xd w A xs) (hB:Sl 3 Xd w B ys) (hnil:B=none->cb=0)
 (HV:XV w gv [.slice A xs.length ca,.slice B ys.length cb]) :
 Calls Tryz.prog 165 #[.slice (some ⟨gv,0,none⟩) 2 2] w λ e w'=>∃ v,e=.returned v/\XI 136 3 Xd w' w.heap.size v (xs++ys)/\Below w.heap.size w w':=by
 obtain ⟨i0,hi0,hz0,hz1,hz2⟩:=info_parts (show (Tryz.prog.info? 136).map (λ i=>(i.zero,i.size,i.bytes))=some (some (.agg #[.int .i64 0,.int .i64 0,.int .i64 0]),3,24) by kernel_rfl);have lV:=HV.1;have HV':=Lib.hid HV;obtain ⟨cHV_0,fHV_0⟩:=HV.2 0 _ rfl;obtain ⟨cHV_1,fHV_1⟩:=HV.2 1 _ rfl;have c1:=λ n W h1 h2=>grow_c n W h1 h2;go_enter Tryz.func165,Tryz.ntmps165
 go_wp2
 go_loopw [3,5,11] (λ v3 _ i wr=>∃ k:Nat,k<=2/\i=.int .i64 k/\v3=.int .i64 (if k=0 then 0 else if k=1 then (xs.length:Int) else (xs.length:Int)+ys.length)/\wr=w) (λ _ _ i _=>2-(intOf i).toNat)
 case atStart=>exact ⟨0,Oz,rfl,rfl,rfl⟩
 case round =>
  obtain ⟨k,hk,rfl,rfl,hwr⟩:=hrel;obtain rfl:w=wr:=hwr.symm;match k,hk with
  | 0,_ =>
   go_wp2
   go_roundw
   case rel=>exact ⟨1,by omega,by go_num,by go_num,by trivial⟩
   case measure=>simp [intOf]
  | 1,_ =>
   have e1:(0:Int)<=(xs.length:Int)+(ys.length:Int):=Oz
   go_wp2
   go_roundw
   case rel=>exact ⟨2,by omega,by go_num,by go_num,by trivial⟩
   case measure=>simp [intOf]
  | 2,_ =>
   have e2:((xs.length:Int)+(ys.length:Int))=((xs.length+ys.length:Nat):Int):=Oz
   have c2:=λ W=>(show Calls Tryz.prog 187 #[.slice none 0 0,.int .i64 ((xs.length:Int)+(ys.length:Int))] W λ e w'=>∃ v,e=.returned v/\XI 136 3 Xd w' W.heap.size v []/\Below W.heap.size W w' from by rw [e2];exact c1 _ W (by omega) (by omega));go_wp2_with (go_at_call 187;refine (c2 _).mono ?_;rintro e w1 ⟨v1,rfl,N1,hb1⟩)
   unfold Oper.wp;simp [go_sem];refine (c2 _).mono ?_;rintro e w1 ⟨v1,rfl,N1,hb1⟩;have hnilA:A=none->ca=0:=λ e=>by
    obtain ⟨b,off,e2,_⟩:=hA h0;rw [e] at e2;cases e2
   clear cHV_0 cHV_1 fHV_0 fHV_1 c1 c2 e2;have HV1:=HV'.out.below hb1;obtain ⟨cHV1_0,fHV1_0⟩:=HV1.2 0 _ rfl;obtain ⟨cHV1_1,fHV1_1⟩:=HV1.2 1 _ rfl;go_wp2
   clear HV1 cHV1_0 cHV1_1 fHV1_0 fHV1_1;go_loopw [6,8,27] (λ v6 _ i wq=>∃ k:Nat,k<=2/\i=.int .i64 k/\XI 136 3 Xd wq w.heap.size v6 (if k=0 then [] else if k=1 then xs else xs++ys)/\Below w.heap.size w wq) (λ _ _ i _=>2-(intOf i).toNat)
   case atStart=>exact ⟨0,Oz,rfl,N1,hb1⟩
   case round =>
    clear hb1 N1;obtain ⟨k,hk,rfl,N,hb2⟩:=hrel;have HV1:=HV'.out.below hb2;have hA1:=hA.below hb2;have hB1:=hB.below hb2;have lV1:=HV1.1;have hlen0:([]:List Half).length+xs.length<=1073741824:=by simp only [List.length_nil];omega
    have hlen1:xs.length+ys.length<=1073741824:=Oz
    obtain ⟨cHV1_0,fHV1_0⟩:=HV1.2 0 _ rfl;obtain ⟨cHV1_1,fHV1_1⟩:=HV1.2 1 _ rfl;match k,hk with
    | 0,_ =>
     go_wp2_with (at_builtin;refine Ku Xx _ rfl _ _ 24 rfl w.heap.size i0 _ 24 Tryz.underlying24 hi0 hz0 hz1 hz2 rfl (by decide) rfl N A ca rfl hA1 hnilA YE hb2 hb2.size hlen0 (by decide) ?_)
     intro v' w4 hn4 hb4;go_wp2
     go_roundw
     case rel=>exact ⟨1,by omega,by go_num,hn4,hb4⟩
     case measure=>simp [intOf]
    | 1,_ =>
     go_wp2_with (at_builtin;refine Ku Xx _ rfl _ _ 24 rfl w.heap.size i0 _ 24 Tryz.underlying24 hi0 hz0 hz1 hz2 rfl (by decide) rfl N B cb rfl hB1 hnil YE hb2 hb2.size hlen1 (by decide) ?_)
     intro v' w4 hn4 hb4;go_wp2
     go_roundw
     case rel=>exact ⟨2,by omega,by go_num,hn4,hb4⟩
     case measure=>simp [intOf]
    | 2,_ =>
     go_wp2
     go_ret
     exact ⟨_,rfl,N,hb2⟩
end Go.Proofs.YtbekjpkcicjcgaaGreat
