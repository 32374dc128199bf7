/-
 The states that a plant keeps in one step, in every mode: of the program and of the reference.
 Conditions: the slices hold at most 2^20 elements.
-/
import Derived.Test.YtbekjpkcicjcgaaGreatMeetR
import Derived.ProofKit
import Derived.OpenShut
import Derived.ChangeOld
import Derived.Below
set_option maxHeartbeats 4000000
set_option maxRecDepth 100000
namespace Go.Proofs.YtbekjpkcicjcgaaGreat
open Go.RowKit
theorem XG.kpT {α:Type} {T sz base n c g:Nat} {enc:α->List Value} {w w':World} {A:Option Addr} {xs:List α} (h:XG T sz enc w base (.slice A n c) xs) (k:Kp [g] w w') (hA:∀ p,A=some p->p.block≠g):XG T sz enc w' base (.slice A n c) xs:=by
 obtain ⟨A',cap,e,h1,h2⟩:=h;refine ⟨A',cap,e,h1, ?_⟩;rcases h2 with h2|⟨q,cap',cur,hv,hg,hh,r⟩
 ·exact .inl h2
 ·have hA2:A=some ⟨q,0,none⟩:=by injection hv
  exact .inr ⟨q,cap',cur,hv,hg,(k.block q (XR hh) (by simp only [List.mem_singleton];exact hA _ hA2)).trans hh,r⟩
end Go.Proofs.YtbekjpkcicjcgaaGreat
namespace Go.Proofs.YtbekjpkcicjcgaaGreat
open Go.RowKit Go.ChangeShapes Go.WideShapes Go.ChangeAt Go.Deep
theorem own_:ownKnob Tryz.prog.godebug=none:=by kernel_rfl
theorem laidOut_:laidOutB Tryz.prog=true:=by kernel_rfl
section
variable {H:Type} {enc:TypeId × Value->H} {P:Program} {w:World} {base:Nat} {spare:Nat->Bool} {held:Bool}
end
end Go.Proofs.YtbekjpkcicjcgaaGreat
namespace Go.Proofs.YtbekjpkcicjcgaaGreat
open Go.RowKit
def kpF (r:XD):Nat->List Half->Option (List Half)
 | 0,_=>none
 | n+1,p=>if (ZH r p&&mrOk p (Yj r p))=true then (if mrR p (Yj r p)=p then some p else kpF r n (mrR p (Yj r p))) else none
def Ye (r:XD):Option (List Half):=if XJ r=true then kpF r 12 r.limits else none
theorem mr_pts {p q:List Half} (hp:Xc p=true) (hq:Xc q=true) (hne:mrR p q≠[]):p≠[]/\q≠[]/\∀ {x y d:Int},0<d->(InP (mrR p q) x y d ↔ InP p x y d/\InP q x y d):=by
 unfold mrR at hne ⊢;split at hne
 ·rename_i h
  rw [if_pos h];have hpn:p≠[]:=λ e=>h.2.1 (by rw [e];rfl);have hqn:q≠[]:=λ e=>h.2.2 (by rw [e];rfl);refine ⟨hpn,hqn,λ{x y d} hd=>?_⟩;rw [meetR_pts (app_ok (Zp hp) (Zp hq)) hne Oz,inP_app];exact ⟨λ k=>k.2,λ k=>⟨reg_frame hp hpn Oz k.1,k⟩⟩
 ·exact absurd rfl hne
theorem within_refl {p:List Half} (hp:Xc p=true):Zs p p=true:=pts_within hp (λ h=>h) (λ _ _ _ _ _ h=>h)
theorem within_trans {p q k:List Half} (hp:Xc p=true) (hq:Xc q=true) (hk:Xc k=true) (h1:Zs p q=true) (h2:Zs q k=true):Zs p k=true:=by
 by_cases hne:p=[]
 ·rw [hne];rfl
 ·obtain ⟨a1,a2⟩:=within_pts hp hne hq h1;obtain ⟨b1,b2⟩:=within_pts hq a1 hk h2;exact pts_within hp (λ _=>b1) (λ _ x y d hd hz=>b2 x y d hd (a2 x y d hd hz))
theorem mr_within {p q:List Half} (hp:Xc p=true) (hq:Xc q=true):Zs (mrR p q) p=true/\Zs (mrR p q) q=true:=by
 have ok:=mrR_ok hp hq;by_cases hne:mrR p q=[]
 ·rw [hne];exact ⟨rfl,rfl⟩
 ·obtain ⟨h1,h2,h3⟩:=mr_pts hp hq hne;exact ⟨pts_within ok (λ _=>h1) (λ _ x y d hd hz=>((h3 hd).1 hz).1),pts_within ok (λ _=>h2) (λ _ x y d hd hz=>((h3 hd).1 hz).2)⟩
theorem kpF_kept {r:XD} (hr:XJ r=true):∀ (n:Nat) (p:List Half),Xc p=true->Zs p r.limits=true->∀ q,kpF r n p=some q->KW r q=true/\Xc q=true
 | 0,_,_,_,_,e=>by cases e
 | n+1,p,hp,hw,q,e=>by
  have hq:=preR_ok r p;have hm:=mrR_ok hp hq;obtain ⟨w1,w2⟩:=mr_within hp hq;rw [kpF] at e;split at e
  ·rename_i h
   split at e
   ·rename_i h2
    injection e with e
    subst e;rw [h2] at w2;refine ⟨?_,hp⟩;unfold KW;simp only [Bool.and_eq_true] at h;rw [hr,hp,hw,h.1,w2];rfl
   ·exact kpF_kept hr n _ hm (within_trans hm hp (JA hr).limits w1 hw) q e
  ·cases e
theorem kpO_kept {r:XD} {q:List Half} (h:Ye r=some q):XJ r=true/\KW r q=true/\Xc q=true:=by
 unfold Ye at h;split at h
 ·rename_i hr
  exact ⟨hr,kpF_kept hr 12 _ (JA hr).limits (within_refl (JA hr).limits) q h⟩
 ·cases h
theorem kept_parts {r:XD} {p:List Half} (h:KW r p=true):XJ r=true/\Xc p=true/\Zs p r.limits=true/\ZH r p=true/\Zs p (Yj r p)=true:=by
 unfold KW at h;simp only [Bool.and_eq_true,Bool.not_eq_true',Bool.or_eq_false_iff,Bool.not_eq_false'] at h;exact ⟨h.1.1.1,h.1.1.2,h.1.2,h.2.1,h.2.2⟩
theorem kept_adm {r:XD} {p:List Half} (hb:0<r.bx) (h:KW r p=true) {s:XH} (hs:Xo s=true) (hd:s.d<=100000) (hi:YL p s=true):∃ w,XL r p s=some w:=by
 obtain ⟨hr,hp,_,ok,hw⟩:=kept_parts h;obtain ⟨hne,hz⟩:=holdsB_pt.1 hi;obtain ⟨h1,h2⟩:=within_pts hp hne (preR_ok r p) hw;have:=Jy hs;exact pre_admAt hr hb hp ok h1 hs hd (h2 _ _ _ Oz hz)
end Go.Proofs.YtbekjpkcicjcgaaGreat
namespace Go.Proofs.YtbekjpkcicjcgaaGreat
open Go.RowKit Go.ChangeShapes Go.WideShapes Go.ChangeAt Go.Deep
def InB (n:Int):Prop:=0<=n/\n<=255
def bytesC (ns:List Int):=ns.map (Value.int .u8)
def byteC (n:Int):List Value:=[.int .u8 n]
theorem inB_of_wf {n:Int} (h:(Lit.int .u8 n).wf=true):InB n:=by
 simp [Lit.wf,IntKind.min,IntKind.max,IntKind.signed,IntKind.bits] at h;exact ⟨Oz,Oz⟩
section
variable {H:Type} {enc:TypeId × Value->H} {P:Program} {w:World} {base:Nat} {spare:Nat->Bool} {held:Bool}
theorem open_slice_rowsB {fuel k:Nat} {t e:TypeId} {cs:List Value} {x:DataW H × List MemPlace} (ht:P.underlying t=some (.slice e)) (hk:P.cellsOf e=k)
 (hel:∀ n cs' x',DataW.trod enc P w base spare held n e cs'=some x'->∃ ns:List Int,ns.length=k/\(∀ n∈ns,InB n)/\cs'=bytesC ns)
 (hpos:0<k) (h:DataW.trod enc P w base spare held fuel t cs=some x) :
 ∃ A n cap,cs=[.slice A n cap]/\n<=9223372036854775807/\∃ rows:List (List Int),rows.length=n/\(∀ r∈rows,r.length=k/\∀ n∈r,InB n)/\Sl k bytesC w A rows:=by
 rcases open_slice ht h with ⟨hcs,_⟩|⟨a,len,cap,m,n,D,Pl,hcs,hb,hl,hm,hmm,hx,hi⟩
 ·exact ⟨_,_,_,hcs,Oz,[],rfl,Sz,λ h=>by simp at h⟩
 ·refine ⟨_,_,_,hcs,by unfold maxLen at hm;omega, ?_⟩;have hlm:len<=m:=by rw [hmm];split<;>omega
  have each:∀ i,i<len->∃ ns:List Int,ns.length=k/\(∀ n∈ns,InB n)/\w.cells? base (a.add (i*k)) k=some (bytesC ns):=by
   intro i hil;obtain ⟨cs',h1,h2⟩:=hi i Oz;obtain ⟨ns,h3,h4,h5⟩:=hel _ _ _ h2;rw [hk] at h1;exact ⟨ns,h3,h4,by rw [h1,h5]⟩
  obtain ⟨f,hf⟩:=choose_lt each;refine ⟨(List.range len).map f,Sz, ?_, ?_⟩
  ·intro r hr;simp only [List.mem_map,List.mem_range] at hr;obtain ⟨i,hil,rfl⟩:=hr;exact ⟨(hf i hil).1,(hf i hil).2.1⟩
  ·intro h0;simp at h0;obtain ⟨b,off,spot⟩:=a;have hspot:spot=none:=by
    obtain ⟨h3,h4,h5⟩:=hf 0 h0;obtain ⟨_,h6,h7⟩:=World.cells?_some h5;have h8:=h7 0 hpos;rw [List.getElem?_eq_getElem Oz] at h8;have:=World.cell?_spot h8;simpa [Addr.add] using this
   subst hspot;have hadd:∀ m:Nat,(⟨b,off,none⟩:Addr).add m=⟨b,off+m,none⟩:=by
    intro m;unfold Addr.add;split
    ·subst_vars;rfl
    ·rfl
   have hcell:∀ i,i<len->∀ j u,(bytesC (f i))[j]? = some u->w.cell? ⟨b,off+i*k+j,none⟩=some u:=by
    intro i hil j u hu;obtain ⟨h3,h4,h5⟩:=hf i hil;obtain ⟨_,h6,h7⟩:=World.cells?_some h5;have hj:j<k:=by
     rcases Nat.lt_or_ge j k with h|h
     ·exact h
     ·rw [List.getElem?_eq_none Oz] at hu;cases hu
    have h8:=h7 j hj;rw [hu,add_add,hadd] at h8;rw [<- h8];congr 2;omega
   refine ⟨b,off,rfl, ?_, ?_⟩
   ·obtain ⟨h3,h4,h5⟩:=hf 0 h0;have hl3:0<(bytesC (f 0)).length:=by simp [bytesC];omega
    have:=hcell 0 h0 0 _ (List.getElem?_eq_getElem hl3);exact block_lt_of_cell this
   ·intro i hil j u hu;simp only [List.length_map,List.length_range] at hil;simp only [List.getElem_map,List.getElem_range] at hu;exact hcell i hil j u hu
theorem open_byteS {fuel:Nat} {t e:TypeId} {cs:List Value} {x:DataW H × List MemPlace} (ht:P.underlying t=some (.slice e)) (he:P.underlying e=some (.int .u8)) (hk:P.cellsOf e=1)
 (h:DataW.trod enc P w base spare held fuel t cs=some x) :
 ∃ A cap,∃ xs:List Int,cs=[.slice A xs.length cap]/\xs.length<=9223372036854775807/\(∀ n∈xs,InB n)/\Sl 1 byteC w A xs:=by
 obtain ⟨A,n,cap,hcs,hn,rows,hl,hr,hs⟩:=open_slice_rowsB (k:=1) ht hk (λ n cs' x' h'=>by
  obtain ⟨m,h1,_,h2⟩:=DataW.trod_int he h';exact ⟨[m],rfl,by simpa using inB_of_wf h2,by simp [h1,bytesC]⟩) Oz h
 refine ⟨A,cap,rows.map (λ r=>r.getD 0 0),by simp [hcs,hl],by simp;omega, ?_,hs.map _ ?_⟩
 ·intro x hx;simp only [List.mem_map] at hx;obtain ⟨r,hr',rfl⟩:=hx;match r,hr r hr' with
  | [a],h=>simpa using h.2 a Sz
 ·intro r hr';match r,hr r hr' with
  | [a],h=>rfl
end
theorem openByteSV {H:Type} {enc:TypeId × Value->H} {W:World} {base b0:Nat} {spare:Nat->Bool} {held:Bool} {r:Reach} {v:Value} {d:DataW H} {p:List MemPlace}
 (hv:Value.okWide Tryz.prog W r b0 22 v) (h:DataW.Trod enc Tryz.prog W base spare held 22 v d p) :
 ∃ A cap,∃ xs:List Int,v=.slice A xs.length cap/\xs.length<=9223372036854775807/\(∀ y∈xs,InB y)/\Sl 1 byteC W A xs:=by
 obtain ⟨a0,len,cap,rfl⟩:=okWide_slice Tryz.underlying22 hv;obtain ⟨fuel,hf⟩:=h;obtain ⟨A,cap',xs,e1,h1,h2,h3⟩:=open_byteS Tryz.underlying22 Tryz.underlying5 (by kernel_rfl) hf;simp only [Value.cells,List.cons.injEq,and_true] at e1;exact ⟨A,cap',xs,e1,h1,h2,h3⟩
end Go.Proofs.YtbekjpkcicjcgaaGreat
namespace Go.Proofs.YtbekjpkcicjcgaaGreat
open Go.RowKit
theorem i64_and255 (n:Int):bits .and .i64 n 255=n % 256:=by
 have h255:(BitVec.ofInt 64 255).toNat=2 ^ 8-1:=Dz
 have key:(BitVec.ofInt 64 n &&& BitVec.ofInt 64 255).toNat=(n % ((2 ^ 64:Nat):Int)).toNat % 2 ^ 8:=by
  rw [BitVec.toNat_and,BitVec.toNat_ofInt,h255,Nat.and_two_pow_sub_one_eq_mod]
 show IntKind.i64.wrap ((BitVec.ofInt 64 n &&& BitVec.ofInt 64 255).toNat:Nat)=n % 256;rw [key,IntKind.wrap_i64];omega
def Cur (w:World) (g:Nat) (B:Option Addr) (n c:Nat):Prop:=∃ i h:Int,0<=i/\i<=(n:Int)/\Xq w g 131 [.slice B n c,.int .i64 i,.int .i64 h]
abbrev KA (w w':World) (g:Nat):Prop:=Kd w w' [⟨some ⟨g,0,none⟩,0⟩]
theorem KA.ne {w w':World} {g k:Nat} (h:KA w w' g) (hk:k<w.heap.size) (hn:g≠k):w'.heap[k]? = w.heap[k]?:=h.block k hk (λ a ha p hp=>by
 rw [List.mem_singleton] at ha;subst ha;cases hp;exact hn)
theorem KA.set_ {w:World} {g:Nat} (j:Nat) (u:Value):KA w (w.setCell ⟨g,j,none⟩ u) g:=Kd.setCells [u] j w (Kd.refl _ _)
theorem Xq.far {w w':World} {g k T:Nat} {vs:List Value} (h:Xq w k T vs) (ho:KA w w' g) (hn:g≠k):Xq w' k T vs:=(ho.ne (XR h) hn).trans h
theorem Sl.farG {α:Type} {sz:Nat} {enc:α->List Value} {w w':World} {A:Option Addr} {xs:List α} {g:Nat} (h:Sl sz enc w A xs) (ho:KA w w' g) (ha:∀ b off,A=some ⟨b,off,none⟩->0<xs.length->b≠g):Sl sz enc w' A xs:=by
 intro hn;obtain ⟨b,off,rfl,hlt,hc⟩:=h hn;refine ⟨b,off,rfl,Nat.lt_of_lt_of_le hlt ho.size,λ i hi j u hu=>?_⟩;exact (World.cell?_of_block (w:=w) (a:=⟨b,off+i*sz+j,none⟩) (ho.ne hlt (λ e=>ha b off rfl hn e.symm))).trans (hc i hi j u hu)
theorem KA.belowB {w w':World} {g B:Nat} (h:KA w w' g) (hB:B<=w.heap.size) (hg:B<=g):Below B w w':=h.below hB (λ x hx p hp=>by
 rw [List.mem_singleton] at hx;subst hx;cases hp;exact hg)
theorem KA.drewN {w w':World} {g:Nat} (h:KA w w' g) (n:Nat):KA w (w'.drewN n) g:=h.trans (Kd.of_below (Zn bR n) _)
theorem JR {x:Int}:0<=x % 256/\x % 256<=255:=Oz
theorem curByte_c (bs:List Int) (B:Option Addr) (c g:Nat) (w:World) (hn:bs.length<=1048576) (hin:∀ y∈bs,InB y) (hs:Sl 1 byteC w B bs) (hc:Cur w g B bs.length c) (hap:∀ b off,B=some ⟨b,off,none⟩->0<bs.length->b≠g) :
 Calls Tryz.prog 90 #[.pointer (some ⟨g,0,none⟩)] w λ e w'=>∃ x:Int,e=.returned (.int .i64 x)/\(0<=x/\x<=255)/\Cur w' g B bs.length c/\KA w w' g:=by
 obtain ⟨i,h,i0,i1,HT⟩:=hc;have HH:=HT.has;obtain ⟨cHH_0,fHH_0⟩:=HH.2 0 _ rfl;obtain ⟨cHH_1,fHH_1⟩:=HH.2 1 _ rfl;obtain ⟨cHH_2,fHH_2⟩:=HH.2 2 _ rfl;have lg:=HH.1;go_enter Tryz.func90,Tryz.ntmps90
 go_upto_region 2 with fail
 generalize wrap64 (wrap64 (h*6364136223846793005)+1442695040888963407)=h2;have T1:Xq (w.setCell ⟨g,2,none⟩ (.int .i64 h2)) g 131 [.slice B bs.length c,.int .i64 i,.int .i64 h2]:=HT.set_ 2 _;have O1:KA w (w.setCell ⟨g,2,none⟩ (.int .i64 h2)) g:=KA.set_ 2 _;have S1:=hs.farG O1 hap;clear HH cHH_0 cHH_1 cHH_2 fHH_0 fHH_1 fHH_2 lg HT hs;generalize w.setCell ⟨g,2,none⟩ (.int .i64 h2)=w1 at *;have H1:=T1.has;obtain ⟨cH1_0,fH1_0⟩:=H1.2 0 _ rfl;obtain ⟨cH1_1,fH1_1⟩:=H1.2 1 _ rfl;obtain ⟨cH1_2,fH1_2⟩:=H1.2 2 _ rfl;have lg:=H1.1;by_cases hlt:i<(bs.length:Int)
 ·obtain ⟨k,rfl⟩:=Int.eq_ofNat_of_zero_le i0;have hk:k<bs.length:=Oz
  obtain ⟨b,off,hB,hblt,hcell⟩:=S1.at_ hk;have g0:=hcell 0 _ rfl;have ib:=hin _ (List.getElem_mem hk);have hne:=hap b off hB (by omega);subst hB;simp only [Nat.mul_one,Nat.add_zero] at g0;clear hcell;generalize bs[k]=y at *;obtain ⟨y0,y1⟩:=ib;go_big_quiet (fail)
  go_upto_region 3 with fail
  rw [i64_and255];obtain ⟨z0,z1⟩:=@JR (bits BinOp.xor IntKind.i64 (h2 / 8589934592) (h2 / 35184372088832));generalize (bits BinOp.xor IntKind.i64 (h2 / 8589934592) (h2 / 35184372088832)) % 256=z at *;clear z0 z1;go_big_quiet (fail)
  go_upto_region 4 with fail
  go_big_quiet (fail)
  go_upto_region 5 with fail
  rw [i64_and255];obtain ⟨z0,z1⟩:=@JR (wrap64 (z+y));generalize wrap64 (z+y) % 256=x at *;go_wp2
  go_ret
  refine ⟨x,rfl,⟨z0,z1⟩,⟨(k:Int)+1,h2,Oz,Oz,Xq.set_ (vs:=[.slice (some ⟨b,off,none⟩) bs.length c,.int .i64 (k:Int),.int .i64 h2]) ?_ 1 _⟩,O1.trans ?_⟩
  ·exact T1
  ·exact (KA.drewN (g:=g) (Kd.refl w1 _) _).trans (KA.set_ 1 _)
 ·go_big_quiet (fail)
  go_upto_region 3 with fail
  rw [i64_and255];obtain ⟨z0,z1⟩:=@JR (bits BinOp.xor IntKind.i64 (h2 / 8589934592) (h2 / 35184372088832));generalize (bits BinOp.xor IntKind.i64 (h2 / 8589934592) (h2 / 35184372088832)) % 256=z at *;go_big_quiet (fail)
  go_wp2
  go_ret
  refine ⟨z,rfl,⟨z0,z1⟩,⟨i,h2,i0,i1,T1⟩,O1.trans ?_⟩;exact KA.drewN (g:=g) (Kd.refl w1 _) _
theorem curNew_c (bs:List Int) (B:Option Addr) (c:Nat) (w:World) (hn:bs.length<=1048576) (hin:∀ y∈bs,InB y) (hs:Sl 1 byteC w B bs) :
 Calls Tryz.prog 32 #[.slice B bs.length c] w λ e w'=>∃ g:Nat,e=.returned (.pointer (some ⟨g,0,none⟩))/\w.heap.size<=g/\Cur w' g B bs.length c/\Below w.heap.size w w':=by
 go_enter Tryz.func32,Tryz.ntmps32
 go_wp2
 go_loopw [3,4] (λ hv i wr=>∃ k:Nat,∃ h:Int,k<=bs.length/\i=.int .i64 k/\hv=.int .i64 h/\Below w.heap.size w wr) (λ _ i _=>bs.length-(intOf i).toNat)
 case atStart=>exact ⟨0,_,Nat.zero_le _,rfl,rfl,Below.refl _ _⟩
 case round =>
  obtain ⟨k,h,hk,rfl,rfl,hbw⟩:=hrel;by_cases hlt:k<bs.length
  ·by_cases h4:(k:Int)<4000
   ·obtain ⟨b,off,rfl,hblt,hc⟩:=(hs.below hbw).at_ hlt;have g0:=hc 0 _ rfl;simp only [Nat.add_zero,Nat.mul_one] at g0;obtain ⟨y0,y1⟩:=hin _ (List.getElem_mem hlt);clear hc;generalize bs[k]=y at *;go_wp2
    go_roundw
    case rel=>exact ⟨k+1,_,by omega,by go_num,rfl,hbw⟩
    case measure=>simp [intOf];omega
   ·go_wp2
    go_ret
    refine ⟨_,rfl,hbw.size,⟨0,_,Int.le_refl _,Oz,Xq.new wr [.slice B bs.length c,.int .i64 0,.int .i64 h] 131⟩,Xb hbw _⟩
  ·go_wp2
   go_ret
   refine ⟨_,rfl,hbw.size,⟨0,_,Int.le_refl _,Oz,Xq.new wr [.slice B bs.length c,.int .i64 0,.int .i64 h] 131⟩,Xb hbw _⟩
theorem cur26_c (bs:List Int) (B:Option Addr) (c:Nat) (n:Int) (w:World) (h0:0<=n) (h1:n<=1000) (hn:bs.length<=1048576) (hin:∀ y∈bs,InB y) (hs:Sl 1 byteC w B bs) :
 Calls Tryz.prog 57 #[.slice B bs.length c,.int .i64 n] w λ e w'=>∃ g:Nat,e=.returned (.pointer (some ⟨g,0,none⟩))/\w.heap.size<=g/\Cur w' g B bs.length c/\Below w.heap.size w w':=by
 have k1:=curNew_c bs B c w hn hin hs;go_enter Tryz.func57,Tryz.ntmps57
 go_wp2_with (fail)
 refine k1.mono ?_;rintro e w1 ⟨g,rfl,hg,C1,hb1⟩;have hap:∀ b off,B=some ⟨b,off,none⟩->0<bs.length->b≠g:=λ b off e hp=>by have:=hs.blt hp b off e;omega
 go_wp2
 go_loopw [6] (λ i wr=>∃ k:Int,0<=k/\k<=n/\i=.int .i64 k/\Cur wr g B bs.length c/\Below w.heap.size w wr) (λ i _=>(n-intOf i).toNat)
 case atStart=>exact ⟨0,Int.le_refl _,h0,rfl,C1,hb1⟩
 case round =>
  obtain ⟨k,k0,hk,rfl,C,hbw⟩:=hrel;by_cases hlt:k<n
  ·have k2:=curByte_c bs B c g wr hn hin (hs.below hbw) C hap;obtain ⟨i,h,_,_,T⟩:=C;have lg:=XR T;clear T;go_wp2_with (fail)
   refine k2.mono ?_;rintro e w2 ⟨x,rfl,_,C2,O2⟩;have hb2:=hbw.trans (O2.belowB hbw.size hg);go_wp2
   go_roundw
   case rel=>exact ⟨k+1,by omega,by omega,by go_num,C2,hb2⟩
   case measure=>simp [intOf];omega
  ·go_wp2
   go_ret
   exact ⟨g,rfl,hg,C,hbw⟩
def cNext (bs:List Int) (s:Int × Int):Int × (Int × Int) :=
 if s.1<bs.length then ((wrap64 ((bits BinOp.xor IntKind.i64 ((wrap64 (wrap64 (s.2*6364136223846793005)+1442695040888963407)) / 8589934592) ((wrap64 (wrap64 (s.2*6364136223846793005)+1442695040888963407)) / 35184372088832)) % 256+bs.getD s.1.toNat 0)) % 256,s.1+1,wrap64 (wrap64 (s.2*6364136223846793005)+1442695040888963407))
 else ((bits BinOp.xor IntKind.i64 ((wrap64 (wrap64 (s.2*6364136223846793005)+1442695040888963407)) / 8589934592) ((wrap64 (wrap64 (s.2*6364136223846793005)+1442695040888963407)) / 35184372088832)) % 256,s.1,wrap64 (wrap64 (s.2*6364136223846793005)+1442695040888963407))
def cIter (bs:List Int):Nat->Int × Int->Int × Int
 | 0,s=>s
 | n+1,s=>cIter bs n (cNext bs s).2
def cSeq (bs:List Int) (s:Int × Int) (j:Nat):Int:=(cNext bs (cIter bs j s)).1
theorem cNext_bd (bs:List Int) (s:Int × Int):0<=(cNext bs s).1/\(cNext bs s).1<=255:=by
 unfold cNext;split
 ·exact JR
 ·exact JR
def Yq (w:World) (g:Nat) (B:Option Addr) (c:Nat) (bs:List Int) (sq:Nat->Int) (k:Nat):Prop:=∃ i h:Int,0<=i/\i<=(bs.length:Int)/\(∀ j,sq (k+j)=cSeq bs (i,h) j)/\Xq w g 131 [.slice B bs.length c,.int .i64 i,.int .i64 h]
theorem Yq.of {w:World} {g:Nat} {B:Option Addr} {c:Nat} {bs:List Int} (h:Cur w g B bs.length c):∃ sq,Yq w g B c bs sq 0:=by
 obtain ⟨i,h,i0,i1,T⟩:=h;exact ⟨cSeq bs (i,h),i,h,i0,i1,λ j=>by rw [Nat.zero_add],T⟩
section
variable {w w':World} {g:Nat} {B:Option Addr} {c:Nat} {bs:List Int} {sq:Nat->Int} {k:Nat}
theorem Yq.bd (h:Yq w g B c bs sq k) (j:Nat):0<=sq (k+j)/\sq (k+j)<=255:=by
 obtain ⟨i,h,_,_,hq,_⟩:=h;rw [hq j];exact cNext_bd _ _
theorem Yq.has (h:Yq w g B c bs sq k):∃ vs,Xq w g 131 vs:=by
 obtain ⟨i,h,_,_,_,T⟩:=h;exact ⟨_,T⟩
theorem Yq.lt (h:Yq w g B c bs sq k):g<w.heap.size:=by
 obtain ⟨_,T⟩:=h.has;exact T.lt
theorem Yq.bel (h:Yq w g B c bs sq k) (hb:Below w.heap.size w w'):Yq w' g B c bs sq k:=by
 obtain ⟨i,h,a,b,d,T⟩:=h;exact ⟨i,h,a,b,d,T.bel hb⟩
theorem Yq.oth {g' T':Nat} {vs':List Value} (h:Yq w g B c bs sq k) (hT:Xq w g' T' vs') (hne:T'≠131) (us:List Value) (o:Nat):Yq (w.setCells g' o us) g B c bs sq k:=by
 obtain ⟨i,h,a,b,d,T⟩:=h;exact ⟨i,h,a,b,d,T.other (T.ne hT (λ e=>hne e.symm)) us o⟩
theorem Yq.kp {M:List Nat} (h:Yq w g B c bs sq k) (hk:Kp M w w') (hg:g ∉ M):Yq w' g B c bs sq k:=by
 obtain ⟨i,h,a,b,d,T⟩:=h;exact ⟨i,h,a,b,d,T.kp hk hg⟩
theorem Yq.shift (h:Yq w g B c bs sq k):Yq w g B c bs (λ j=>sq (k+j)) 0:=by
 obtain ⟨i,h,a,b,d,T⟩:=h;exact ⟨i,h,a,b,λ j=>by rw [Nat.zero_add];exact d j,T⟩
end
theorem curByteQ_c (bs:List Int) (B:Option Addr) (c g:Nat) (sq:Nat->Int) (k:Nat) (w:World) (hn:bs.length<=1048576) (hin:∀ y∈bs,InB y) (hs:Sl 1 byteC w B bs) (hc:Yq w g B c bs sq k) (hap:∀ b off,B=some ⟨b,off,none⟩->0<bs.length->b≠g) :
 Calls Tryz.prog 90 #[.pointer (some ⟨g,0,none⟩)] w λ e w'=>e=.returned (.int .i64 (sq k))/\Yq w' g B c bs sq (k+1)/\KA w w' g:=by
 obtain ⟨i,h,i0,i1,hq,HT⟩:=hc;have hv:sq k=(cNext bs (i,h)).1:=hq 0;have hr:∀ j,sq (k+1+j)=cSeq bs (cNext bs (i,h)).2 j:=λ j=>by
  have:=hq (j+1);rw [show k+1+j=k+(j+1) by omega];exact this
 clear hq;have HH:=HT.has;obtain ⟨cHH_0,fHH_0⟩:=HH.2 0 _ rfl;obtain ⟨cHH_1,fHH_1⟩:=HH.2 1 _ rfl;obtain ⟨cHH_2,fHH_2⟩:=HH.2 2 _ rfl;have lg:=HH.1;unfold cNext at hv hr;simp only at hv hr;go_enter Tryz.func90,Tryz.ntmps90
 go_upto_region 2 with fail
 generalize wrap64 (wrap64 (h*6364136223846793005)+1442695040888963407)=h2 at hv hr ⊢;have T1:Xq (w.setCell ⟨g,2,none⟩ (.int .i64 h2)) g 131 [.slice B bs.length c,.int .i64 i,.int .i64 h2]:=HT.set_ 2 _;have O1:KA w (w.setCell ⟨g,2,none⟩ (.int .i64 h2)) g:=KA.set_ 2 _;have S1:=hs.farG O1 hap;clear HH cHH_0 cHH_1 cHH_2 fHH_0 fHH_1 fHH_2 lg HT hs;generalize w.setCell ⟨g,2,none⟩ (.int .i64 h2)=w1 at *;have H1:=T1.has;obtain ⟨cH1_0,fH1_0⟩:=H1.2 0 _ rfl;obtain ⟨cH1_1,fH1_1⟩:=H1.2 1 _ rfl;obtain ⟨cH1_2,fH1_2⟩:=H1.2 2 _ rfl;have lg:=H1.1;by_cases hlt:i<(bs.length:Int)
 ·obtain ⟨m,rfl⟩:=Int.eq_ofNat_of_zero_le i0;have hk:m<bs.length:=Oz
  rw [if_pos hlt] at hv hr;simp only at hr hv;have hgd:bs.getD (m:Int).toNat 0=bs[m]:=by
   rw [show (m:Int).toNat=m from rfl];simp [List.getD_eq_getElem?_getD,hk]
  have hgd2:bs.getD (Int.ofNat m).toNat 0=bs[m]:=hgd;have hv2:=Lib.hid hv;have hr2:=Lib.hid hr;clear hv hr;obtain ⟨b,off,hB,hblt,hcell⟩:=S1.at_ hk;have g0:=hcell 0 _ rfl;have ib:=hin _ (List.getElem_mem hk);have hne:=hap b off hB (by omega);subst hB;simp only [Nat.mul_one,Nat.add_zero] at g0;clear hcell;have hgd3:=Lib.hid hgd;have hgd4:=Lib.hid hgd2;clear hgd hgd2;generalize bs[m]=y at *;obtain ⟨y0,y1⟩:=ib;go_big_quiet (fail)
  go_upto_region 3 with fail
  rw [i64_and255];obtain ⟨z0,z1⟩:=@JR (bits BinOp.xor IntKind.i64 (h2 / 8589934592) (h2 / 35184372088832));generalize (bits BinOp.xor IntKind.i64 (h2 / 8589934592) (h2 / 35184372088832)) % 256=z at *;clear z0 z1;go_big_quiet (fail)
  go_upto_region 4 with fail
  go_big_quiet (fail)
  go_upto_region 5 with fail
  rw [i64_and255];obtain ⟨z0,z1⟩:=@JR (wrap64 (z+y));have hv3:=hv2.out;first|rw [hgd3.out] at hv3|rw [hgd4.out] at hv3
  have hv4:=Lib.hid hv3;clear hv2 hv3 hgd3 hgd4;generalize wrap64 (z+y) % 256=x at *;go_wp2
  go_ret
  refine ⟨by rw [hv4.out];rfl,⟨(m:Int)+1,h2,Oz,Oz,hr2.out,Xq.set_ (vs:=[.slice (some ⟨b,off,none⟩) bs.length c,.int .i64 (m:Int),.int .i64 h2]) ?_ 1 _⟩,O1.trans ?_⟩
  ·exact T1
  ·exact (KA.drewN (g:=g) (Kd.refl w1 _) _).trans (KA.set_ 1 _)
 ·rw [if_neg hlt] at hv hr;simp only at hr hv;have hv2:=Lib.hid hv;have hr2:=Lib.hid hr;clear hv hr;go_big_quiet (fail)
  go_upto_region 3 with fail
  rw [i64_and255];obtain ⟨z0,z1⟩:=@JR (bits BinOp.xor IntKind.i64 (h2 / 8589934592) (h2 / 35184372088832));generalize (bits BinOp.xor IntKind.i64 (h2 / 8589934592) (h2 / 35184372088832)) % 256=z at *;go_big_quiet (fail)
  go_wp2
  go_ret
  refine ⟨by rw [hv2.out];rfl,⟨i,h2,i0,i1,hr2.out,T1⟩,O1.trans ?_⟩;exact KA.drewN (g:=g) (Kd.refl w1 _) _
theorem Yp (bs:List Int) (B:Option Addr) (c g:Nat) (m:Int) (sq:Nat->Int) (k:Nat) (w:World) (h1:1<=m) (h2:m<=256) (hn:bs.length<=1048576) (hin:∀ y∈bs,InB y) (hs:Sl 1 byteC w B bs) (hc:Yq w g B c bs sq k) (hap:∀ b off,B=some ⟨b,off,none⟩->0<bs.length->b≠g) :
 Calls Tryz.prog 34 #[.pointer (some ⟨g,0,none⟩),.int .i64 m] w λ e w'=>e=.returned (.int .i64 (sq k % m))/\Yq w' g B c bs sq (k+1)/\KA w w' g:=by
 have k1:=curByteQ_c bs B c g sq k w hn hin hs hc hap;obtain ⟨x0,x1⟩:=hc.bd 0;rw [Nat.add_zero] at x0 x1;have d0:((m:Int) == 0)=false:=by simp;omega
 have d1:((m:Int) != 0)=true:=by simp;omega
 have d2:((m:Int) == -1)=false:=by simp;omega
 clear hin hs hc hap;go_enter Tryz.func34,Tryz.ntmps34
 go_wp2_with (fail)
 refine k1.mono ?_;rintro e w1 ⟨rfl,C1,O1⟩;go_wp2
 go_ret
 exact ⟨rfl,C1,O1⟩
theorem curOnceQ_c (bs:List Int) (B:Option Addr) (c g:Nat) (m:Int) (sq:Nat->Int) (k:Nat) (w:World) (h1:1<=m) (h2:m<=256) (hn:bs.length<=1048576) (hin:∀ y∈bs,InB y) (hs:Sl 1 byteC w B bs) (hc:Yq w g B c bs sq k) (hap:∀ b off,B=some ⟨b,off,none⟩->0<bs.length->b≠g) :
 Calls Tryz.prog 87 #[.pointer (some ⟨g,0,none⟩),.int .i64 m] w λ e w'=>e=.returned (.bool (sq k % m == 0))/\Yq w' g B c bs sq (k+1)/\KA w w' g:=by
 have k1:=Yp bs B c g m sq k w h1 h2 hn hin hs hc hap;clear hin hs hc hap;generalize sq k % m=x at *;go_enter Tryz.func87,Tryz.ntmps87
 go_wp2_with (fail)
 refine k1.mono ?_;rintro e w1 ⟨rfl,C1,O1⟩;go_wp2
 go_ret
 exact ⟨rfl,C1,O1⟩
theorem curPickQ_c (bs:List Int) (B:Option Addr) (c g:Nat) (l:List Int) (A:Option Addr) (d:Nat) (sq:Nat->Int) (k:Nat) (w:World) (h1:1<=l.length) (h2:l.length<=256) (hn:bs.length<=1048576) (hin:∀ y∈bs,InB y) (hs:Sl 1 byteC w B bs) (hc:Yq w g B c bs sq k) (hap:∀ b off,B=some ⟨b,off,none⟩->0<bs.length->b≠g) (hl:Sl 1 Kk w A l) (hap2:∀ b off,A=some ⟨b,off,none⟩->0<l.length->b≠g) :
 Calls Tryz.prog 85 #[.pointer (some ⟨g,0,none⟩),.slice A l.length d] w λ e w'=>e=.returned (.int .i64 (l.getD (sq k % (l.length:Int)).toNat 0))/\Yq w' g B c bs sq (k+1)/\KA w w' g:=by
 have k1:=Yp bs B c g (l.length:Int) sq k w Oz Oz hn hin hs hc hap;obtain ⟨m,hm⟩:=Int.eq_ofNat_of_zero_le (Int.emod_nonneg (sq k) (show (l.length:Int)≠0 by omega));have hlt:m<l.length:=by
  have:=Int.emod_lt_of_pos (sq k) (show (0:Int)<(l.length:Int) by omega);omega
 rw [hm] at k1;have hm2:=Lib.hid hm;clear hm hin hs hc hap;go_enter Tryz.func85,Tryz.ntmps85
 go_wp2_with (fail)
 refine k1.mono ?_;rintro e w1 ⟨rfl,C1,O1⟩;obtain ⟨b,off,hA,hblt,hcell⟩:=(hl.farG O1 hap2).at_ hlt;have g0:=hcell 0 _ rfl;subst hA;simp only [Nat.mul_one,Nat.add_zero] at g0;clear hcell k1;go_wp2
 go_ret
 refine ⟨?_,C1,O1⟩;rw [hm2.out];simp [List.getD_eq_getElem?_getD,hlt]
end Go.Proofs.YtbekjpkcicjcgaaGreat
