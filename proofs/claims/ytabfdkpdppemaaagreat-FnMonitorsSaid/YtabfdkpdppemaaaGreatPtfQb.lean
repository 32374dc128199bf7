/-
 Regions that are kept in all rounds, and regions that all modes keep.
 Conditions: valid rooms whose input drives the first coordinate.
-/
import Derived.Test.YtabfdkpdppemaaaGreatWatTQb
set_option maxHeartbeats 1000000
set_option maxRecDepth 100000
namespace Go.Proofs.YtabfdkpdppemaaaGreat
open Go.RowKit
theorem kept_parts {r:XK} {p:List Half} (h:keptB r p=true):X0 r=true/\Xi p=true/\ZW p r.limits=true/\Kw r p=true/\ZW p (YW r p)=true:=by
 unfold keptB at h;simp only [Bool.and_eq_true,Bool.not_eq_true',Bool.or_eq_false_iff,Bool.not_eq_false'] at h;exact ⟨h.1.1.1,h.1.1.2,h.1.2,h.2.1,h.2.2⟩
def cntV (v:Int) (l:List Int):Int:=((l.filter (· == v)).length:Nat)
theorem cntV_bd (v:Int) (l:List Int):0<=cntV v l/\cntV v l<=l.length:=by
 unfold cntV;have:=List.length_filter_le (· == v) l;omega
theorem cntV_snoc (v:Int) (l:List Int) (n:Int):cntV v (l++[n])=cntV v l+if n == v then 1 else 0:=by
 unfold cntV;rw [List.filter_append];cases h:(n == v)<;>simp [h]
def K6 (l:List Int):Int:=Kd (λ k=>l.getD k 1 != 1) (l.length-0) 0
theorem iCount_c (x:KX) (a:JJ) (v:Int) (w:World) (hx:ZS x<=1048576) (ha:WatchSl w x a) :
 Calls Tryz.prog 24 #[Zy x a,.int .i64 v] w λ e w'=>e=.returned (.int .i64 (cntV v x.log))/\Below w.heap.size w w':=by
 obtain ⟨ar,ag,⟨A,ac⟩⟩:=a;have hs:Sl 1 Z6 w A x.log:=ha.log;have hl:x.log.length<=1048576:=by simp only [ZS] at hx;omega
 clear hx ha;go_enter Tryz.func24,Tryz.ntmps24
 go_wp2
 go_loopw [5,7,11] (λ c _ i wr=>∃ k:Nat,k<=x.log.length/\i=.int .i64 k/\c=.int .i64 (cntV v (x.log.take k))/\Below w.heap.size w wr) (λ _ _ i _=>x.log.length-(intOf i).toNat)
 case atStart=>exact ⟨0,Nat.zero_le _,rfl,rfl,by exact Xp⟩
 case round =>
  obtain ⟨k,hk,rfl,rfl,hbr⟩:=hrel;by_cases hlt:k<x.log.length
  ·obtain ⟨b,off,rfl,hblt,hc⟩:=(hs.below hbr).at_ hlt;have g0:=hc 0 _ rfl;have hsn:=Lib.hid (cntV_snoc v (x.log.take k) x.log[k]);rw [<- ZC x.log k hlt] at hsn;obtain ⟨hb3,hb4⟩:=cntV_bd v (x.log.take k);have hb2:(x.log.take k).length<=x.log.length:=by rw [List.length_take];omega
   clear hc;simp only [Nat.mul_one,Nat.add_zero] at g0;generalize x.log[k]=n at *;cases q1:(n == v)
   ·go_wp2
    refine ⟨⟨k+1,by omega,by go_num, ?_,hbr⟩,by simp [intOf];omega⟩;rw [hsn.out,q1];simp
   ·go_wp2
    refine ⟨⟨k+1,by omega,by go_num, ?_,hbr⟩,by simp [intOf];omega⟩;rw [hsn.out,q1];rfl
  ·obtain rfl:k=x.log.length:=by omega
   go_wp2
   go_ret
   exact ⟨Zr (by rw [List.take_length]),hbr⟩
theorem fo1_c (n:Int) (w:World) :
 Calls Tryz.prog 110 #[.int .i64 n] w λ e w'=>e=.returned (.bool (n != 1))/\w=w':=by
 go_enter Tryz.func110,Tryz.ntmps110
 go_wp2
 go_ret
 exact ⟨rfl,rfl⟩
theorem indexFunc_c (A:Option Addr) (l:List Int) (ac:Nat) (w:World) (hl:l.length<=1048576) (hs:Sl 1 Z6 w A l) :
 Calls Tryz.prog 109 #[.slice A l.length ac,.func (.func 110) #[] #[]] w λ e w'=>e=.returned (.int .i64 (K6 l))/\Below w.heap.size w w':=by
 go_enter Tryz.func109,Tryz.ntmps109
 go_wp2
 go_loopw [5,8] (λ _ i wr=>∃ k:Nat,k<=l.length/\i=.int .i64 k/\Hid (K6 l=Kd (λ k=>l.getD k 1 != 1) (l.length-k) k)/\Below w.heap.size w wr) (λ _ i _=>l.length-(intOf i).toNat)
 case atStart=>exact ⟨0,Nat.zero_le _,rfl,rfl,by exact Xp⟩
 case round =>
  obtain ⟨k,hk,rfl,hst,hbr⟩:=hrel;by_cases hlt:k<l.length
  ·obtain ⟨b,off,rfl,hblt,hc⟩:=(hs.below hbr).at_ hlt;have g0:=hc 0 _ rfl;clear hc;simp only [Nat.mul_one,Nat.add_zero] at g0;have hgd:l.getD k 1=l[k]:=by rw [List.getD_eq_getElem?_getD,List.getElem?_eq_getElem hlt];rfl
   cases q1:(l[k] != 1)
   ·have hfin:Hid (K6 l=Kd (λ k=>l.getD k 1 != 1) (l.length-(k+1)) (k+1)):=hst.out.trans (firstGo_miss hlt (by show (l.getD k 1 != 1)=false;rw [hgd,q1]));clear hst hgd;have c1:=λ W=>fo1_c l[k] W;rw [q1] at c1;generalize l[k]=n at *;have i1:(0:Int)<=(k:Int):=by omega
    have i2:(k:Int)<(l.length:Int):=by omega
    go_wp2_with (go_at_call 110;refine (c1 _).mono ?_;rintro e w' ⟨rfl,rfl⟩)
    go_roundw
    case rel=>exact ⟨k+1,by omega,by go_num,hfin,hbr⟩
    case measure=>simp [intOf];omega
   ·have hfin:Hid (K6 l=k):=hst.out.trans (firstGo_hit hlt (by show (l.getD k 1 != 1)=true;rw [hgd,q1]));clear hst hgd;have c1:=λ W=>fo1_c l[k] W;rw [q1] at c1;generalize l[k]=n at *;have i1:(0:Int)<=(k:Int):=by omega
    have i2:(k:Int)<(l.length:Int):=by omega
    go_wp2_with (go_at_call 110;refine (c1 _).mono ?_;rintro e w' ⟨rfl,rfl⟩)
    go_ret
    exact ⟨Zr hfin.out.symm,hbr⟩
  ·obtain rfl:k=l.length:=by omega
   have hfin:Hid (K6 l = -1):=hst.out.trans firstGo_end;clear hst;go_wp2
   go_ret
   exact ⟨Zr hfin.out.symm,hbr⟩
theorem iFirstOver_c (x:KX) (a:JJ) (w:World) (hx:ZS x<=1048576) (ha:WatchSl w x a) :
 Calls Tryz.prog 25 #[Zy x a] w λ e w'=>e=.returned (.int .i64 (K6 x.log))/\Below w.heap.size w w':=by
 have hl:x.log.length<=1048576:=by simp only [ZS] at hx;omega
 go_enter Tryz.func25,Tryz.ntmps25
 go_wp2_with (fail)
 refine (indexFunc_c a.log.A x.log a.log.c _ hl (Sl.below ha.log (by exact Xp))).mono ?_;rintro e w1 ⟨rfl,hb1⟩;go_wp2
 go_ret
 refine ⟨rfl, ?_⟩;exact Xp
theorem watch_new {r:XK} {p:List Half} (h:keptB r p=true) (hne:p≠[]):wnOk r p=true/\wnX r p=⟨r,p,[]⟩/\watchB r p []=true:=by
 have hl:decide (p.length=0)=false:=decide_eq_false (λ e=>hne (List.length_eq_zero_iff.1 e));have h2:=wn_yes (r:=r) (p:=p) (by rw [hl,h];rfl);refine ⟨h2.2,h2.1, ?_⟩;unfold watchB;rw [hl,h];rfl
theorem jdg_law {r:XK} {p:List Half} {s:XQ} {u:X5} (w:watchB r p []=true):(XH r p s=none->Kr r p [] s u=(Y3,3))/\∀ v,XH r p s=some v->Ja v (Kr r p [] s u).1=true/\((Kr r p [] s u).2=1 ↔ Ja v u=true)/\((Kr r p [] s u).2=1->(Kr r p [] s u).1=u)/\((Kr r p [] s u).2=1∨(Kr r p [] s u).2=2):=by
 refine ⟨λ h=>jdg_out w (by rw [h];rfl),λ v h=>?_⟩;have ok:=admAt_span _ _ h;obtain ⟨a1,a2⟩:=spanOk_r ok;rw [jdg_in w (by rw [h];rfl),h];simp only [Option.getD_some];unfold jdgS;split
 ·rename_i hi
  exact ⟨hi,⟨λ _=>hi,λ _=>rfl⟩,λ _=>rfl,.inl rfl⟩
 ·rename_i hi
  split
  ·exact ⟨(inSpan_iff ok a1).2 (btw_low ok),⟨λ k=>absurd k (by simp),λ k=>absurd k hi⟩,λ k=>absurd k (by simp),.inr rfl⟩
  ·exact ⟨(inSpan_iff ok a2).2 (btw_high ok),⟨λ k=>absurd k (by simp),λ k=>absurd k hi⟩,λ k=>absurd k (by simp),.inr rfl⟩
theorem ws_one (r:XK) (p:List Half) (s:XQ) (u:X5):wsL r p [] s u=[(Kr r p [] s u).2]:=ws_yes (l:=[]) (by decide)
end Go.Proofs.YtabfdkpdppemaaaGreat
