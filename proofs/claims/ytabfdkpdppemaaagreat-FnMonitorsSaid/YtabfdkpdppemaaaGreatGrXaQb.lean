/-
 Whether a region contains a point: of the program.
 Conditions: valid half planes, valid points.
-/
import Derived.Test.YtabfdkpdppemaaaGreatCopyQb
namespace Go.Proofs.YtabfdkpdppemaaaGreat
open Go.RowKit
theorem within_no {C:List XQ} {q:List Half} {k:Nat} (h:k<C.length) (hb:Zl q C[k]=false):C.all (Zl q)=false:=by
 rw [List.all_eq_false];exact ⟨_,List.getElem_mem h,by rw [hb];decide⟩
set_option maxRecDepth 100000 in
set_option maxHeartbeats 4000000 in
theorem iWithin_c (p q:List Half) (a b:KL) (w:World) (hp:Xi p=true) (hq:Xi q=true) (hsp:Sl 3 Xh w a.A p) (hsq:Sl 3 Xh w b.A q) :
 Calls Tryz.prog 114 #[ZN p a,ZN q b] w λ e w'=>e=.returned (.bool (ZW p q))/\Below w.heap.size w w':=by
 have hdef:=Lib.hid (show ZW p q=(XA p).all (Zl q) from rfl);have hlp:=Za hp;have hlq:=Za hq;have hcl:(XA p).length<=40:=by rw [Zv];exact hlp
 have hco:=Lib.hid (corners_ok hp);obtain ⟨W,hW⟩:∃ W,W=(w.alloc (.cells #[.slice a.A p.length a.c] 26)).alloc (.cells #[.slice b.A q.length b.c] 26):=⟨_,rfl⟩;have HA:Yk W w.heap.size [.slice a.A p.length a.c]:=by rw [hW];exact ZK
 have HB:Yk W (w.heap.size+1) [.slice b.A q.length b.c]:=by rw [hW];exact ZK
 have b0:Below w.heap.size w W:=by rw [hW];exact Xp
 have sp:=hsp.below b0;have sq:=hsq.below b0;have hW':=Lib.hid hW;have kc:=iCorners_c p a W hp sp;clear hW hsp hsq;obtain ⟨cHA_0,fHA_0⟩:=HA.2 0 _ rfl;have lA:=HA.1;generalize XA p=C at *;go_enter Tryz.func114,Tryz.ntmps114
 go_upto_region 1 with fail
 rw [<- hW'.out];clear hW';go_wp2_with (fail)
 refine kc.mono ?_;rintro e w1 ⟨v,rfl,N,hb1⟩;obtain ⟨Ac,cc,rfl,SC⟩:=N.sl J2;have HB1:=HB.below hb1;have SQ:=sq.below hb1;have b1:=Xf b0 hb1;clear N HA HB sp sq hb1 cHA_0 fHA_0 lA kc b0;go_wp2
 go_loopw [6,10] (λ _ i wr=>∃ k:Nat,k<=C.length/\i=.int .i64 k/\(C.take k).all (Zl q)=true/\Below w1.heap.size w1 wr) (λ _ i _=>C.length-(intOf i).toNat)
 case atStart=>exact ⟨0,Nat.zero_le _,rfl,rfl,Below.refl _ _⟩
 case round =>
  obtain ⟨k,hk,rfl,hall,hbw⟩:=hrel;have bw:=b1.trans (hbw.mono b1.size);by_cases hlt:k<C.length
  ·obtain ⟨bb,off,rfl,hblt,hc⟩:=(SC.below hbw).at_ hlt;have g0:=hc 0 _ rfl;have g1:=hc 1 _ rfl;have g2:=hc 2 _ rfl;simp only [Nat.add_zero] at g0;have c1:=λ W h=>iHolds_c q b C[k] W (by omega) (ZH hq) (hco.out _ (List.getElem_mem hlt)) h;have hn:=Lib.hid (λ h=>@within_no C q k hlt h);have hy:=Lib.hid (λ h=>@within_step C q k hlt hall h);clear hc hall;generalize Zl q C[k]=hv at *;generalize C[k]=s at *;have H1x:=(HB1.below hbw).alloc (.cells #[.int .i64 s.x,.int .i64 s.y,.int .i64 s.d] 30);have SQx:=(SQ.below hbw).alloc (.cells #[.int .i64 s.x,.int .i64 s.y,.int .i64 s.d] 30);have bx:=hbw.alloc hbw.size (.cells #[.int .i64 s.x,.int .i64 s.y,.int .i64 s.d] 30);have TX:=Yk.new wr #[.int .i64 s.x,.int .i64 s.y,.int .i64 s.d] 30;go_upto_region 4 with fail
   clear g0 g1 g2 hblt;generalize wr.alloc (.cells #[.int .i64 s.x,.int .i64 s.y,.int .i64 s.d] 30)=wx at *;generalize wr.heap.size=gx at *;obtain ⟨cH1x_0,fH1x_0⟩:=H1x.2 0 _ rfl;obtain ⟨cTX_0,fTX_0⟩:=TX.2 0 _ rfl;obtain ⟨cTX_1,fTX_1⟩:=TX.2 1 _ rfl;obtain ⟨cTX_2,fTX_2⟩:=TX.2 2 _ rfl;have l1:=H1x.1;have lx:=TX.1;cases hv
   ·have hv:=Lib.hid (hn.out rfl);go_wp2_with (fail)
    refine (c1 _ SQx).mono ?_;rintro e w3 ⟨rfl,hb3⟩;go_wp2
    go_ret
    exact ⟨by rw [hdef.out,hv.out];rfl,b1.trans ((Xf bx hb3).mono b1.size)⟩
   ·have hv:=Lib.hid (hy.out rfl);go_wp2_with (fail)
    refine (c1 _ SQx).mono ?_;rintro e w3 ⟨rfl,hb3⟩;go_wp2
    go_roundw
    case rel=>exact ⟨k+1,by omega,by go_num,hv.out,Xf bx hb3⟩
    case measure=>simp [intOf];omega
  ·obtain rfl:k=C.length:=by omega
   rw [List.take_length] at hall;have hv:=Lib.hid hall;clear hall;go_wp2
   go_ret
   exact ⟨by rw [hdef.out,hv.out];rfl,bw⟩
theorem admAt_ok {r:XK} {p:List Half} {s:XQ} {v:Zg} (h:XH r p s=some v):X6 v=true:=by
 unfold XH at h;split at h
 ·exact JV h
 ·cases h
def Ja (w:Zg) (u:X5):Bool:=X6 w&&Xe u&&decide (Xu w.low u<=0)&&decide (Xu u w.high<=0)
section
variable {v:Zg} {wish:Int} (h:X6 v=true)
include h
end
end Go.Proofs.YtabfdkpdppemaaaGreat
