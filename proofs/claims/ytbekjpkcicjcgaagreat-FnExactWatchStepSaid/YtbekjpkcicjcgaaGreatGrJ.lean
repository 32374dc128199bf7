/-
 Inserting a half plane into a slice of the call's own; copies of elements of several cells.
 Conditions: the slice holds at most 2^20 elements.
-/
import Derived.Laws.CopyOwn
import Derived.Lib.AppendZerosOnto
import Derived.Lib.Overlaps
import Derived.Lib.Walk
import Derived.Lib.SliceRun
import Derived.Shelf.RegionOpenPlain
import Derived.Deep.RegionLaw
import Derived.Test.YtbekjpkcicjcgaaGreatEdg
import Derived.BigQuiet
set_option maxHeartbeats 8000000
set_option maxRecDepth 100000
namespace Go.Proofs.YtbekjpkcicjcgaaGreat
open Go.RowKit
theorem run_copyK {P:Program} (w:World) (dT sT ty elem:TypeId) (i:TypeInfo) (g o dLen dCap:Nat) (a:Addr) (sLen sCap:Nat) (cur:Array Value) (t:TypeId) (cs:List Value) (k:Nat)
 (hu:P.underlying dT=some (.slice elem)) (hi:P.info? elem=some i) (hk:k=Nat.min sLen dLen) (hn:cs.length=k*i.size)
 (hg:w.heap[g]? = some (.cells cur t (0,0))) (hsrc:∀ j v,cs[j]? = some v->w.cell? (a.add j)=some v) (hfit:o+cs.length<=cur.size) (h1:∀ v∈cs,v.oneCell'=true) :
 (Builtin.copy_ #[dT,sT] ty #[.slice (some ⟨g,o,none⟩) dLen dCap,.slice (some a) sLen sCap]).run P w =
  .ok (goInt k) (w.setRow g (cur.toList.take o++cs++cur.toList.drop (o+cs.length)).toArray):=by
 have hl:=run_loadCells_list (P:=P) w a cs hsrc;have hst:=run_storeCells_at P g o t cs 0 cur w hg (by simpa using hfit) h1;rw [hn] at hl;simp [Builtin.copy_,run_underlying hu,Builtin.lenOf,Builtin.firstCells,sizeOf,typeInfo,hi,<- hk,hl,hst]
theorem wpList_copyR {P:Program} {w:World} {ops:Array Oper} {rest:List Oper} {o:Oper} {a:Act} {Q:Exit->Act->World->Prop} (hgd:o.guard=none) (d s:Operand) (dT sT:TypeId)
 (ho:o.op=.call { callee:=.builtin .copy,args:=#[d,s],argTypes:=#[dT,sT] }) {v u:Value} (hd:a.eval d=v) (hs:a.eval s=u) {v':Value} {w':World}
 (hr:(Builtin.copy_ #[dT,sT] o.type #[v,u]).run P w=.ok v' w') (h:wpList P ops Q rest (a.put o.dst v') w'):wpList P ops Q (o :: rest) a w:=by
 refine wpList_plain hgd λ K hK=>?_;unfold Oper.wp;simp [execOp,ho,resolve,invoke,builtin,hd,hs,hr,Result.andThen];exact hK _ _ h
theorem step_copyR {P:Program} {ops:Array Oper} {o:Oper} {a:Act} {w:World} {K:Act->World->Prop} {Q:Exit->Act->World->Prop} {E:Prop} (hgd:o.guard=none) (d s:Operand) (dT sT:TypeId)
 (ho:o.op=.call { callee:=.builtin .copy,args:=#[d,s],argTypes:=#[dT,sT] }) {v u:Value} (hd:a.eval d=v) (hs:a.eval s=u) {v':Value} {w':World}
 (hr:(Builtin.copy_ #[dT,sT] o.type #[v,u]).run P w=.ok v' w') (h:K (a.put o.dst v') w'):if Region.wanted o (yielded ops a.tmps)=true then Oper.wp P o a w K Q else E:=by
 rw [if_pos (by simp [Region.wanted,hgd])];unfold Oper.wp;simp [execOp,ho,resolve,invoke,builtin,hd,hs,hr,Result.andThen];exact h
theorem YE (t:Half):∀ u∈Xd t,u.oneCell'=true:=by
 intro u hu;simp only [Xd,List.mem_cons,List.not_mem_nil,or_false] at hu;rcases hu with rfl|rfl|rfl<;>rfl
theorem shiftL {cur TS HS CS:List Value} {a c:Nat} (h1:cur.take a=TS) (hT:TS.length=a) (hH:HS.length=3) (hC:CS.length=c) (hl:a+3+c<=cur.length) :
 ((cur.take (a+3)++CS++cur.drop (a+3+c)).take a++HS++(cur.take (a+3)++CS++cur.drop (a+3+c)).drop (a+3)).length=cur.length /\
 ((cur.take (a+3)++CS++cur.drop (a+3+c)).take a++HS++(cur.take (a+3)++CS++cur.drop (a+3+c)).drop (a+3)).take (a+3+c)=TS++(HS++CS):=by
 have e0:(cur.take (a+3)).length=a+3:=by rw [List.length_take];omega
 have e1:(cur.take (a+3)++CS++cur.drop (a+3+c)).take a=TS:=by
  rw [List.append_assoc,List.take_append_of_le_length Oz,List.take_take,Nat.min_eq_left Oz,h1]
 have e2:(cur.take (a+3)++CS++cur.drop (a+3+c)).drop (a+3)=CS++cur.drop (a+3+c):=by
  rw [List.append_assoc,List.drop_left' e0]
 rw [e1,e2];refine ⟨by simp only [List.length_append,List.length_drop];omega, ?_⟩;have e3:TS++HS++(CS++cur.drop (a+3+c))=(TS++(HS++CS))++cur.drop (a+3+c):=by simp only [List.append_assoc]
 rw [e3,List.take_left' (by simp only [List.length_append];omega)]
theorem growL {row TS HS CS:List Value} {a c:Nat} (h1:row.take a=TS) (hT:TS.length=a) (hH:HS.length=3) (hC:CS.length=c) (hl:a+3+c<=row.length) :
 ((row.take a++HS++row.drop (a+3)).take (a+3)++CS++(row.take a++HS++row.drop (a+3)).drop (a+3+c)).length=row.length /\
 ((row.take a++HS++row.drop (a+3)).take (a+3)++CS++(row.take a++HS++row.drop (a+3)).drop (a+3+c)).take (a+3+c)=TS++(HS++CS):=by
 have e1:(row.take a++HS++row.drop (a+3)).take (a+3)=TS++HS:=by
  rw [h1,List.take_left' (by simp only [List.length_append];omega)]
 have e2:(row.take a++HS++row.drop (a+3)).length=row.length:=by simp only [List.length_append,List.length_take,List.length_drop];omega
 rw [e1];refine ⟨by simp only [List.length_append,List.length_drop,e2];omega, ?_⟩;rw [List.append_assoc TS HS CS,List.take_left' (by simp only [List.length_append];omega)]
theorem insert_c (v:Value) (xs:List Half) (i base:Nat) (h:Half) (w:World) (hi:i<=xs.length) (hn:xs.length<=1048576) (hown:XI 136 3 Xd w base v xs) (hbase:base<=w.heap.size) :
 Calls Tryz.prog 191 #[v,.int .i64 i,.slice (some ⟨w.heap.size,0,none⟩) 1 1] (w.alloc (.cells #[.int .i64 h.a,.int .i64 h.b,.int .i64 h.c] 136)) λ e w' =>
  ∃ v',e=.returned v'/\XI 136 3 Xd w' base v' (xs.take i++h :: xs.drop i)/\Below base w w':=by
 obtain ⟨i0,hi0,hz0,hz1,hz2⟩:=info_parts (show (Tryz.prog.info? 136).map (λ i=>(i.zero,i.size,i.bytes))=some (some (.agg #[.int .i64 0,.int .i64 0,.int .i64 0]),3,24) by kernel_rfl);have hlt:=(show ∀ g,v.ownBlock=some g->base<=g/\g<w.heap.size from by
  obtain ⟨A,cap,rfl,hr⟩:=hown;exact hr.lt)
 have N1:=hown.alloc (.cells #[.int .i64 h.a,.int .i64 h.b,.int .i64 h.c] 136);have B1:Below base w (w.alloc (.cells #[.int .i64 h.a,.int .i64 h.b,.int .i64 h.c] 136)):=bR.alloc hbase _;have B1':base<=(w.alloc (.cells #[.int .i64 h.a,.int .i64 h.b,.int .i64 h.c] 136)).heap.size:=by simp;omega
 have HV:=XV.new w #[.int .i64 h.a,.int .i64 h.b,.int .i64 h.c] 136;have hvo:∀ j u,(Xd h)[j]? = some u->(w.alloc (.cells #[.int .i64 h.a,.int .i64 h.b,.int .i64 h.c] 136)).cell? (Addr.add ⟨w.heap.size,0,none⟩ j)=some u:=by
  intro j u hj;have:=(HV.2 j u hj).1;rw [Addr.add_lit,Nat.zero_add];exact this
 have i63:(xs.length:Int)<=1048576:=Oz
 have hn30:xs.length<=1073741823:=Oz
 by_cases hin:i=xs.length
 ·have hres:=Lib.hid (show xs.take i++h :: xs.drop i=xs++[h] by rw [hin];simp);subst hin;obtain ⟨A,cap,rfl,hr⟩:=hown;clear hi hlt;rcases hr.2 with ⟨hv,h0⟩|⟨g,cap',cur,hv,hg,hh,hcap,hmax,hsize,htake⟩
  ·have hx:xs=[]:=List.eq_nil_of_length_eq_zero h0;subst hx;injection hv with hA _ hc
   subst hA hc;clear hr h0 i63;go_enter Tryz.func191,Tryz.ntmps191
   go_wp2_with (at_builtin;refine Z5 Xx _ rfl _ _ 24 rfl base i0 _ 24 Tryz.underlying24 hi0 hz0 hz1 hz2 rfl (by decide) rfl N1 _ 1 rfl h hvo (YE h) B1 B1' hn30 (by decide) ?_)
   intro v' w4 hn4 hb4;go_wp2
   go_ret
   exact ⟨_,rfl,hn4,hb4⟩
  ·injection hv with hA _ hc
   subst hA hc;clear hr hh hsize htake;have hm2:(cap:Int)<=9223372036854775807:=by unfold maxLen at hmax;omega
   have hc2:(xs.length:Int)<=(cap:Int):=Oz
   by_cases hcc:cap=xs.length
   ·go_enter Tryz.func191,Tryz.ntmps191
    go_wp2_with (at_builtin;refine Z5 Xx _ rfl _ _ 24 rfl base i0 _ 24 Tryz.underlying24 hi0 hz0 hz1 hz2 rfl (by decide) rfl N1 _ 1 rfl h hvo (YE h) B1 B1' hn30 (by decide) ?_)
    intro v' w4 hn4 hb4;go_wp2
    go_ret
    exact ⟨_,rfl,by rw [hres.out];exact hn4,hb4⟩
   ·have hc3:¬ ((cap:Int)=(xs.length:Int)):=Oz
    go_enter Tryz.func191,Tryz.ntmps191
    go_wp2_with (at_builtin;refine Z5 Xx _ rfl _ _ 24 rfl base i0 _ 24 Tryz.underlying24 hi0 hz0 hz1 hz2 rfl (by decide) rfl N1 _ 1 rfl h hvo (YE h) B1 B1' hn30 (by decide) ?_)
    intro v' w4 hn4 hb4;go_wp2
    go_ret
    exact ⟨_,rfl,by rw [hres.out];exact hn4,hb4⟩
 ·obtain ⟨A,cap,rfl,hr⟩:=hown;clear hlt;rcases hr.2 with ⟨hv,h0⟩|⟨g,cap',cur,hv,hg,hh,hcap,hmax,hsize,htake⟩
  ·omega
  ·injection hv with hA _ hc
   subst hA hc;have hgw:=YD hh;have hin2:i<xs.length:=Oz
   have hgne:g≠w.heap.size:=Oz
   have hh1:(w.alloc (.cells #[.int .i64 h.a,.int .i64 h.b,.int .i64 h.c] 136)).heap[g]? = some (.cells cur 136 (0,0)):=(((Below.refl w.heap.size w).alloc XE _).block g hgw).trans hh;have hm2:(cap:Int)<=9223372036854775807:=by unfold maxLen at hmax;omega
   have hc2:(xs.length:Int)<=(cap:Int):=Oz
   have e1:(0:Int)<=(i:Int):=Oz
   have e2:(i:Int)<=(xs.length:Int):=Oz
   have e3:¬ ((i:Int)=(xs.length:Int)):=Oz
   have e4:¬ (cap=i):=Oz
   have e5:¬ (cap=i+1)∨cap=i+1:=Oz
   have e6:(i:Int)<=(cap:Int):=Oz
   have e7:i<=xs.length:=Oz
   have JW:i<=cap:=Oz
   clear hr;have hfl:=YI Xx xs;have hcs1:∀ j v,((xs.drop i).flatMap Xd)[j]? = some v->cur.toList[i*3+j]? = some v:=by
    intro j v hj;have hsp:xs.flatMap Xd=(xs.take i).flatMap Xd++(xs.drop i).flatMap Xd:=by rw [<- List.flatMap_append,List.take_append_drop]
    have hl1:((xs.take i).flatMap Xd).length=i*3:=by rw [YI Xx,List.length_take,Nat.min_eq_left e7]
    have hjl:j<((xs.drop i).flatMap Xd).length:=by
     rcases Nat.lt_or_ge j ((xs.drop i).flatMap Xd).length with h1|h1
     ·exact h1
     ·rw [List.getElem?_eq_none h1] at hj;cases hj
    have h2:(xs.flatMap Xd)[i*3+j]? = some v:=by
     rw [hsp,List.getElem?_append_right Oz,hl1,Nat.add_sub_cancel_left];exact hj
    rw [<- htake,List.getElem?_take] at h2;split at h2
    ·exact h2
    ·cases h2
   have hcsl:((xs.drop i).flatMap Xd).length=(xs.length-i)*3:=by rw [YI Xx,List.length_drop]
   have hcso:∀ v∈(xs.drop i).flatMap Xd,v.oneCell'=true:=by
    intro v hv;obtain ⟨y,_,hy⟩:=List.mem_flatMap.1 hv;exact YE y v hy
   have htk:(cur.toList.take (i*3))=(xs.take i).flatMap Xd:=by
    have h1:xs.flatMap Xd=(xs.take i).flatMap Xd++(xs.drop i).flatMap Xd:=by rw [<- List.flatMap_append,List.take_append_drop]
    have h2:((xs.take i).flatMap Xd).length=i*3:=by rw [YI Xx,List.length_take,Nat.min_eq_left e7]
    have h3:=congrArg (List.take (i*3)) htake;rw [List.take_take,Nat.min_eq_left Oz,h1,List.take_left' h2] at h3;exact h3
   have hflat:(xs.take i++h :: xs.drop i).flatMap Xd=(xs.take i).flatMap Xd++(Xd h++(xs.drop i).flatMap Xd):=Sz
   have hlen1:(xs.take i++h :: xs.drop i).length=xs.length+1:=by simp;omega
   have htl:((xs.take i).flatMap Xd).length=i*3:=by rw [YI Xx,List.length_take,Nat.min_eq_left e7]
   have hhl:(Xd h).length=3:=Xx h;obtain ⟨CS,hCS⟩:∃ CS,CS=(xs.drop i).flatMap Xd:=⟨_,rfl⟩;rw [<- hCS] at hcs1 hcsl hcso hflat;obtain ⟨TS,hTS⟩:∃ TS,TS=(xs.take i).flatMap Xd:=⟨_,rfl⟩;rw [<- hTS] at htk hflat htl;obtain ⟨YS,hYS⟩:∃ YS,YS=xs.take i++h :: xs.drop i:=⟨_,rfl⟩;rw [<- hYS] at hflat hlen1 ⊢;clear hYS hTS hCS htake;by_cases hroom:cap<xs.length+1
   ·have hcx:cap=xs.length:=Oz
    subst hcx;have e11:((i:Int)+1).toNat=i+1:=Oz
    have e13:(0:Int)<=(i:Int)+1:=Oz
    have mixed:Tryz.prog.follows Departure.mixedOrders=true:=by kernel_rfl
    have hkk:(xs.length:Int)+1-(i:Int)=((xs.length+1-i:Nat):Int):=Oz
    have hik:i+(xs.length+1-i)=xs.length+1:=Oz
    have hw1:IntKind.i64.wrap ((i:Int)+1)=(i:Int)+1:=IntWalk.i64_in _ Oz;have hcl:cur.toList.length=xs.length*3:=by rw [Array.length_toList,hsize]
    have hold:(Builtin.firstCells i0.size i (.slice (some ⟨g,0,none⟩) i xs.length)).run Tryz.prog (w.alloc (.cells #[.int .i64 h.a,.int .i64 h.b,.int .i64 h.c] 136)).drew=.ok TS.toArray (w.alloc (.cells #[.int .i64 h.a,.int .i64 h.b,.int .i64 h.c] 136)).drew:=by
     rw [hz1];refine run_firstCells_some _ 3 i ⟨g,0,none⟩ i xs.length TS htl (λ j v hj=>?_);rw [Addr.add_lit,Nat.zero_add];refine (cell_of_row _ g _ cur 136 (0,0) hh1).trans ?_;rw [<- htk,List.getElem?_take] at hj;split at hj
     ·rw [<- Array.getElem?_toList];exact hj
     ·cases hj
    have hrz:∀ ty,(Builtin.append_ #[24,3] ty #[.slice (some ⟨g,0,none⟩) i xs.length,.int .i64 ((xs.length:Int)+1-(i:Int))]).run Tryz.prog (w.alloc (.cells #[.int .i64 h.a,.int .i64 h.b,.int .i64 h.c] 136)) =
     .ok (.slice (some ⟨w.heap.size+1,0,none⟩) (xs.length+1) (grownCap (w.alloc (.cells #[.int .i64 h.a,.int .i64 h.b,.int .i64 h.c] 136)) (xs.length+1) xs.length 136))
      ((w.alloc (.cells #[.int .i64 h.a,.int .i64 h.b,.int .i64 h.c] 136)).drew.alloc (.cells (TS.toArray++Builtin.zeroCells (Value.agg #[.int .i64 0,.int .i64 0,.int .i64 0]).cells (xs.length+1-i)++Builtin.zeroCells (Value.agg #[.int .i64 0,.int .i64 0,.int .i64 0]).cells (grownCap (w.alloc (.cells #[.int .i64 h.a,.int .i64 h.b,.int .i64 h.c] 136)) (xs.length+1) xs.length 136-(xs.length+1))) 136)):=λ ty=>by
     have h1:=Lib.run_append_grow_zeros (w.alloc (.cells #[.int .i64 h.a,.int .i64 h.b,.int .i64 h.c] 136)) 24 3 ty 136 i0 _ .i64 .i64 Tryz.underlying24 Tryz.underlying3 hi0 hz0 (some ⟨g,0,none⟩) i xs.length TS hold (xs.length+1-i) Oz Oz Oz Oz (by rw [hz2];omega) (by rw [hz2,hik];exact growslice_fits hroom Oz);rw [hik,World.size_alloc] at h1;rw [hkk];exact h1
    obtain ⟨C,hC⟩:∃ C,C=grownCap (w.alloc (.cells #[.int .i64 h.a,.int .i64 h.b,.int .i64 h.c] 136)) (xs.length+1) xs.length 136:=⟨_,rfl⟩;have hC1:xs.length+1<=C:=by rw [hC];exact grownCap_ge _ _ _ _
    have hC2:C<=maxLen:=by rw [hC];exact grownCap_le_maxLen _ _ _ _ (by unfold maxLen;omega)
    rw [<- hC] at hrz;obtain ⟨ROW,hROW⟩:∃ ROW:Array Value,ROW=TS.toArray++Builtin.zeroCells (Value.agg #[.int .i64 0,.int .i64 0,.int .i64 0]).cells (xs.length+1-i)++Builtin.zeroCells (Value.agg #[.int .i64 0,.int .i64 0,.int .i64 0]).cells (C-(xs.length+1)):=⟨_,rfl⟩;rw [<- hROW] at hrz;have hRs:ROW.toList.length=C*3:=by
     rw [hROW,Array.length_toList];simp only [Array.size_append,Builtin.zeroCells,Value.cells,Array.size_map,Array.size_range,List.size_toArray,List.length_cons,List.length_nil];omega
    have hRt:ROW.toList.take (i*3)=TS:=by
     rw [hROW];simp only [Array.toList_append];rw [List.append_assoc,List.take_left' htl]
    clear hROW hold;obtain ⟨W1,hW1⟩:∃ W1,W1=(w.alloc (.cells #[.int .i64 h.a,.int .i64 h.b,.int .i64 h.c] 136)).drew.alloc (.cells ROW 136):=⟨_,rfl⟩;rw [<- hW1] at hrz;have hW1g:W1.heap[w.heap.size+1]? = some (.cells ROW 136 (0,0)):=by
     rw [hW1];have:=heap_alloc_new (w.alloc (.cells #[.int .i64 h.a,.int .i64 h.b,.int .i64 h.c] 136)).drew (.cells ROW 136);simpa using this
    have hW1b:Below base w W1:=by rw [hW1];exact (YQ B1 1).alloc (by simp;omega) _
    have hW1v:∀ j u,(Xd h)[j]? = some u->W1.cell? (Addr.add ⟨w.heap.size,0,none⟩ j)=some u:=λ j u hj=>by
     have h0:=hvo j u hj;rw [Addr.add_lit] at h0 ⊢;rw [hW1];exact (((Below.refl (w.heap.size+1) (w.alloc (.cells #[.int .i64 h.a,.int .i64 h.b,.int .i64 h.c] 136)).drew).alloc Sz _).cell (p:=⟨w.heap.size,0+j,none⟩) Sz).trans h0
    have hW1s:∀ j v,CS[j]? = some v->W1.cell? (Addr.add ⟨g,i*3,none⟩ j)=some v:=λ j v hj=>by
     rw [Addr.add_lit,hW1];exact (((Below.refl (w.heap.size+1) (w.alloc (.cells #[.int .i64 h.a,.int .i64 h.b,.int .i64 h.c] 136)).drew).alloc Sz _).cell (p:=⟨g,i*3+j,none⟩) (by simp only;omega)).trans ((cell_of_row _ g _ cur 136 (0,0) hh1).trans (by rw [<- Array.getElem?_toList];exact hcs1 j v hj))
    have hm3:i*3+3+CS.length<=ROW.toList.length:=Oz
    obtain ⟨hs1,hs2⟩:=growL (c:=CS.length) hRt htl hhl rfl hm3;obtain ⟨R1,hR1⟩:∃ R1,R1=ROW.toList.take (i*3)++Xd h++ROW.toList.drop (i*3+3):=⟨_,rfl⟩;have hR1l:R1.length=ROW.toList.length:=by rw [hR1];simp only [List.length_append,List.length_take,List.length_drop];omega
    have hcp1:∀ ty dl dc,1<=dl->(Builtin.copy_ #[24,24] ty #[.slice (some ⟨w.heap.size+1,i*3,none⟩) dl dc,.slice (some ⟨w.heap.size,0,none⟩) 1 1]).run Tryz.prog W1=.ok (goInt (1:Nat)) (W1.setRow (w.heap.size+1) R1.toArray):=λ ty dl dc h1=>by
     rw [hR1,show i*3+3=i*3+(Xd h).length by rw [hhl]];exact run_copyK W1 _ _ ty 136 i0 (w.heap.size+1) (i*3) dl dc ⟨w.heap.size,0,none⟩ 1 1 ROW 136 (Xd h) 1 Tryz.underlying24 hi0 (by simp only [Nat.min_def];split<;>omega) (by rw [hz1,hhl]) hW1g hW1v (by rw [<- Array.length_toList];omega) (YE h)
    obtain ⟨W2,hW2⟩:∃ W2,W2=W1.setRow (w.heap.size+1) R1.toArray:=⟨_,rfl⟩;rw [<- hW2] at hcp1;have hW2g:W2.heap[w.heap.size+1]? = some (.cells R1.toArray 136 (0,0)):=by rw [hW2];exact setRow_heap _ _ _ _ _ _ hW1g
    have hW2b:Below base w W2:=by rw [hW2];exact below_setRow hW1b Oz _
    have hW2s:∀ j v,CS[j]? = some v->W2.cell? (Addr.add ⟨g,i*3,none⟩ j)=some v:=λ j v hj=>by
     have h0:=hW1s j v hj;rw [Addr.add_lit] at h0 ⊢;rw [hW2];exact (cell_setRow_other _ _ _ _ (by simp only;omega)).trans h0
    obtain ⟨R2,hR2⟩:∃ R2,R2=R1.take (i*3+3)++CS++R1.drop (i*3+3+CS.length):=⟨_,rfl⟩;rw [<- hR1,<- hR2] at hs1 hs2;have hcp2:∀ ty dl dc sl sc,dl=xs.length-i->sl=xs.length-i->(Builtin.copy_ #[24,24] ty #[.slice (some ⟨w.heap.size+1,(i+1)*3,none⟩) dl dc,.slice (some ⟨g,i*3,none⟩) sl sc]).run Tryz.prog W2.drew=.ok (goInt (xs.length-i:Nat)) (W2.drew.setRow (w.heap.size+1) R2.toArray):=λ ty dl dc sl sc h1 h2=>by
     rw [hR2];have e:(i+1)*3=i*3+3:=Oz
     rw [e];exact run_copyK W2.drew _ _ ty 136 i0 (w.heap.size+1) (i*3+3) dl dc ⟨g,i*3,none⟩ sl sc R1.toArray 136 CS (xs.length-i) Tryz.underlying24 hi0 (by rw [h1,h2];simp only [Nat.min_def];split<;>omega) (by rw [hz1];exact hcsl) hW2g hW2s (by simp only [List.size_toArray];omega) hcso
    have hnew:XI 136 3 Xd (W2.drew.setRow (w.heap.size+1) R2.toArray) base (.slice (some ⟨w.heap.size+1,0,none⟩) (xs.length+1) C) YS:=by
     refine ⟨_,C,by rw [hlen1], ?_,.inr ⟨w.heap.size+1,C,R2.toArray,by rw [hlen1],Oz,setRow_heap _ _ _ _ _ _ hW2g,Oz,hC2,by simp only [List.size_toArray];omega, ?_⟩⟩
     ·rw [hflat,hlen1];simp only [List.length_append];omega
     ·rw [hflat,hlen1,show (xs.length+1)*3=i*3+3+CS.length by omega];exact hs2
    have hbel:Below base w (W2.drew.setRow (w.heap.size+1) R2.toArray):=below_setRow (YQ hW2b 1) Oz _;obtain ⟨W3,hW3⟩:∃ W3,W3=W2.drew.setRow (w.heap.size+1) R2.toArray:=⟨_,rfl⟩;rw [<- hW3] at hcp2 hnew hbel;have hnew':=Lib.hid hnew;have hbel':=Lib.hid hbel;have f1:¬ (C=i):=Oz
    have f2:¬ (C=i+1):=Oz
    have f3:(i:Int)<=(xs.length:Int)+1:=Oz
    have f4:(i:Int)+1<=(xs.length:Int)+1:=Oz
    have f5:(i:Int)<=(C:Int):=Oz
    clear hW3 hR2 hW2s hW2b hW2g hW2 hR1l hR1 hs1 hs2 hm3 hcl hnew hbel hcsl hcs1 hcso hflat htk htl hhl hfl hh N1 HV hvo hW1s hW1v hW1b hW1g hW1 hRt hRs hC hkk hik;go_enter Tryz.func191,Tryz.ntmps191
    go_wp2_with (first|(at_builtin;refine Lib.wpList_append_run _ rfl _ _ _ _ rfl _ _ rfl rfl _ _ (hrz _) ?_)|(refine wpList_copyR rfl _ _ 24 24 rfl rfl rfl (hcp1 _ _ _ (by omega)) ?_))
    go_region_law_o (refine step_copyR rfl _ _ 24 24 rfl (by simp [Act.eval,Act.put];done) (by simp [Act.eval,Act.put];done) (hcp2 _ _ _ _ _ (by omega) (by omega)) ?_)
    go_wp2
    go_ret
    exact ⟨_,rfl,hnew'.out,hbel'.out⟩
   ·have hc4:¬ (xs.length+1 > cap):=hroom;have e8:¬ (cap=i+1):=Oz
    have e9:(i:Int)+1<=(xs.length:Int)+1:=Oz
    have e10:(xs.length:Int)+1<=(cap:Int):=Oz
    have e11:((i:Int)+1).toNat=i+1:=Oz
    have e13:(0:Int)<=(i:Int)+1:=Oz
    have e14:(i:Int)<=(xs.length:Int)+1:=Oz
    have mixed:Tryz.prog.follows Departure.mixedOrders=true:=by kernel_rfl
    have e12:((xs.length:Int)+1).toNat=xs.length+1:=Oz
    have hw1:IntKind.i64.wrap ((i:Int)+1)=(i:Int)+1:=IntWalk.i64_in _ Oz;have hshg:(w.alloc (.cells #[.int .i64 h.a,.int .i64 h.b,.int .i64 h.c] 136)).shape? g=some (136,cur.size):=by simp only [World.shape?,hh1]
    have hshv:(w.alloc (.cells #[.int .i64 h.a,.int .i64 h.b,.int .i64 h.c] 136)).shape? w.heap.size=some (136,3):=by
     simp only [World.shape?,heap_alloc_new w _];rfl
    have hov:∀ lb cb,(callFunc 207 #[.slice (some ⟨w.heap.size,0,none⟩) 1 1,.slice (some ⟨g,(i+1)*3,none⟩) lb cb]).run Tryz.prog (w.alloc (.cells #[.int .i64 h.a,.int .i64 h.b,.int .i64 h.c] 136))=.ok (.value (.bool false)) (w.alloc (.cells #[.int .i64 h.a,.int .i64 h.b,.int .i64 h.c] 136)):=λ lb cb=>by
     rw [run_callFunc_extern Tryz.func207 (by kernel_rfl) (by kernel_rfl) (by kernel_rfl) (e:=Extern.SlicesOverlaps.overlaps #[24,24] #[4]) (by kernel_rfl),
      Lib.run_overlaps_apart _ 24 4 136 Tryz.underlying24 3 (λ w=>by simp [sizeOf,typeInfo,hi0,hz1]) ⟨w.heap.size,0,none⟩ ⟨g,(i+1)*3,none⟩ 1 1 lb cb (λ e=>hgne e.symm) 136 136 3 cur.size hshv hshg (by rw [hsize];omega) Sz Sz]
     rfl
    have hcl:cur.toList.length=cap*3:=by rw [Array.length_toList,hsize]
    have hm3:i*3+3+CS.length<=cur.toList.length:=Oz
    obtain ⟨hs1,hs2⟩:=shiftL (c:=CS.length) htk htl hhl rfl hm3;obtain ⟨R1,hR1⟩:∃ R1,R1=cur.toList.take (i*3+3)++CS++cur.toList.drop (i*3+3+CS.length):=⟨_,rfl⟩;have hR1l:R1.length=cur.toList.length:=by rw [hR1];simp only [List.length_append,List.length_take,List.length_drop];omega
    have hcp1:∀ ty dl dc sl sc,dl=xs.length-i->sl=xs.length+1-i->(Builtin.copy_ #[24,24] ty #[.slice (some ⟨g,(i+1)*3,none⟩) dl dc,.slice (some ⟨g,i*3,none⟩) sl sc]).run Tryz.prog (w.alloc (.cells #[.int .i64 h.a,.int .i64 h.b,.int .i64 h.c] 136)).drew=.ok (goInt (xs.length-i:Nat)) ((w.alloc (.cells #[.int .i64 h.a,.int .i64 h.b,.int .i64 h.c] 136)).drew.setRow g R1.toArray):=λ ty dl dc sl sc h1 h2=>by
     rw [hR1];have e:(i+1)*3=i*3+3:=Oz
     rw [e];exact run_copyK _ _ _ ty 136 i0 g (i*3+3) dl dc ⟨g,i*3,none⟩ sl sc cur 136 CS (xs.length-i) Tryz.underlying24 hi0 (by rw [h1,h2];simp only [Nat.min_def];split<;>omega) (by rw [hz1];exact hcsl) hh1
      (λ j v hj=>by rw [Addr.add_lit];exact (cell_of_row _ g _ cur 136 (0,0) hh1).trans (by rw [<- Array.getElem?_toList];exact hcs1 j v hj)) (by rw [<- Array.length_toList];omega) hcso
    obtain ⟨W1,hW1⟩:∃ W1,W1=(w.alloc (.cells #[.int .i64 h.a,.int .i64 h.b,.int .i64 h.c] 136)).drew.setRow g R1.toArray:=⟨_,rfl⟩;rw [<- hW1] at hcp1;have hW1g:W1.heap[g]? = some (.cells R1.toArray 136 (0,0)):=by rw [hW1];exact setRow_heap _ g _ _ _ _ hh1
    have hW1v:∀ j u,(Xd h)[j]? = some u->W1.cell? (Addr.add ⟨w.heap.size,0,none⟩ j)=some u:=λ j u hj=>by
     have h0:=hvo j u hj;rw [Addr.add_lit] at h0 ⊢;rw [hW1];exact (cell_setRow_other _ g _ _ (λ e=>hgne e.symm)).trans h0
    have hW1b:Below base w W1:=by rw [hW1];exact below_setRow (YQ B1 1) hg _
    obtain ⟨R2,hR2⟩:∃ R2,R2=R1.take (i*3)++Xd h++R1.drop (i*3+3):=⟨_,rfl⟩;rw [<- hR1,<- hR2] at hs1 hs2;have hcp2:∀ ty dl dc,1<=dl->(Builtin.copy_ #[24,24] ty #[.slice (some ⟨g,i*3,none⟩) dl dc,.slice (some ⟨w.heap.size,0,none⟩) 1 1]).run Tryz.prog W1=.ok (goInt (1:Nat)) (W1.setRow g R2.toArray):=λ ty dl dc h1=>by
     rw [hR2,show i*3+3=i*3+(Xd h).length by rw [hhl]];exact run_copyK W1 _ _ ty 136 i0 g (i*3) dl dc ⟨w.heap.size,0,none⟩ 1 1 R1.toArray 136 (Xd h) 1 Tryz.underlying24 hi0 (by simp only [Nat.min_def];split<;>omega) (by rw [hz1,hhl]) hW1g hW1v (by simp only [List.size_toArray];omega) (YE h)
    have hnew:XI 136 3 Xd (W1.setRow g R2.toArray) base (.slice (some ⟨g,0,none⟩) (xs.length+1) cap) YS:=by
     refine ⟨_,cap,by rw [hlen1], ?_,.inr ⟨g,cap,R2.toArray,by rw [hlen1],hg,setRow_heap _ g _ _ _ _ hW1g,Oz,hmax,by simp only [List.size_toArray];omega, ?_⟩⟩
     ·rw [hflat,hlen1];simp only [List.length_append];omega
     ·rw [hflat,hlen1,show (xs.length+1)*3=i*3+3+CS.length by omega];exact hs2
    have hbel:Below base w (W1.setRow g R2.toArray):=below_setRow hW1b hg _;obtain ⟨W2,hW2⟩:∃ W2,W2=W1.setRow g R2.toArray:=⟨_,rfl⟩;rw [<- hW2] at hcp2 hnew hbel;have hnew':=Lib.hid hnew;have hbel':=Lib.hid hbel;clear hW2 hR2 hW1b hW1v hW1g hW1 hR1l hR1 hs1 hs2 hm3 hcl hnew hbel hcsl hcs1 hcso hflat htk htl hhl hfl hh N1 HV hvo hshv hshg;go_enter Tryz.func191,Tryz.ntmps191
    go_wp2_with (simp only [hov])
    go_region_law_o (refine step_copyR rfl _ _ 24 24 rfl (by simp [Act.eval,Act.put];done) (by simp [Act.eval,Act.put];done) (hcp1 _ _ _ _ _ (by omega) (by omega)) ?_)
    go_wp2_with (refine wpList_copyR rfl _ _ 24 24 rfl rfl rfl (hcp2 _ _ _ (by omega)) ?_)
    go_wp2
    go_ret
    exact ⟨_,rfl,hnew'.out,hbel'.out⟩
theorem gins_at:∀ {l:List Half} {h:Half} {j:Nat},j<=l.length->(∀ q,q<j->ZU (l.getD q Xa) h=true) ->
 (j=l.length->Ju l h=l.take j++h :: l.drop j) /\
 (j<l.length->ZU (l.getD j Xa) h=false->(Yo (l.getD j Xa) h=true->Ju l h=l.set j (Zu (l.getD j Xa) h))/\(Yo (l.getD j Xa) h=false->Ju l h=l.take j++h :: l.drop j))
 | [],h,j,hj,_=>by
  obtain rfl:j=0:=by simpa using hj
  exact ⟨λ _=>rfl,λ h1=>by simp at h1⟩
 | x :: r,h,0,_,_=>by
  refine ⟨λ h1=>by simp at h1,λ _ hb=>?_⟩;simp only [List.getD_cons_zero] at hb ⊢;refine ⟨λ hs=>?_,λ hs=>?_⟩
  ·rw [Ju,if_neg (by rw [hb];decide),if_pos hs];rfl
  ·rw [Ju,if_neg (by rw [hb];decide),if_neg (by rw [hs];decide)];rfl
 | x :: r,h,j+1,hj,hq=>by
  have h0:=hq 0 Oz;simp only [List.getD_cons_zero] at h0;have I:=gins_at (l:=r) (h:=h) (j:=j) (by simpa using hj) (λ q h1=>by have:=hq (q+1) Oz;simpa using this);refine ⟨λ h1=>?_,λ h1 hb=>⟨λ hs=>?_,λ hs=>?_⟩⟩
  ·rw [Ju,if_pos h0,I.1 (by simpa using h1)];rfl
  ·rw [Ju,if_pos h0,(I.2 (by simpa using h1) (by simpa using hb)).1 (by simpa using hs)];simp
  ·rw [Ju,if_pos h0,(I.2 (by simpa using h1) (by simpa using hb)).2 (by simpa using hs)];rfl
theorem gtight_step {hs:List Half} {k:Nat} (h:k<hs.length):Y8 (hs.take (k+1))=Ju (Y8 (hs.take k)) hs[k]:=by
 rw [Zj hs k h];unfold Y8;rw [List.foldl_append];rfl
theorem gtight_ok {hs:List Half} (hok:∀ h∈hs,Xt h=true):∀ x∈Y8 hs,Xt x=true:=λ x hx=>hok x ((Zk (λ h hh=>(KS (hok h hh)).n)).mem x hx)
theorem XI.row {α:Type} {T sz base cap:Nat} {enc:α->List Value} {w:World} {A:Option Addr} {xs:List α} (h:XI T sz enc w base (.slice A xs.length cap) xs) (h0:0<xs.length) :
 ∃ g cur,A=some ⟨g,0,none⟩/\base<=g/\g<w.heap.size/\w.heap[g]? = some (.cells cur T (0,0))/\xs.length<=cap/\cur.size=cap*sz:=by
 obtain ⟨A',cap',e,h1,h2⟩:=h;injection e with e1 _ e3
 subst e1 e3;rcases h2 with ⟨_,h2⟩|⟨g,cap',cur,hv,hg,hh,hcap,hmax,hsize,htake⟩
 ·omega
 ·injection hv with hA _ hc
  subst hA hc;exact ⟨g,cur,rfl,hg,YD hh,hh,hcap,hsize⟩
theorem XI.set3 {T base g cap j:Nat} {w:World} {xs:List Half} {y:Half} (h:XI T 3 Xd w base (.slice (some ⟨g,0,none⟩) xs.length cap) xs) (hj:j<xs.length) :
 XI T 3 Xd (((w.setCell ⟨g,j*3,none⟩ (.int .i64 y.a)).setCell ⟨g,j*3+1,none⟩ (.int .i64 y.b)).setCell ⟨g,j*3+2,none⟩ (.int .i64 y.c)) base (.slice (some ⟨g,0,none⟩) xs.length cap) (xs.set j y):=by
 obtain ⟨A',cap',e,h1,h2⟩:=h;injection e with e1 _ e3
 subst e1 e3;rcases h2 with ⟨_,h2⟩|⟨g',cap',cur,hv,hg,hh,hcap,hmax,hsize,htake⟩
 ·omega
 ·injection hv with hA _ hc
  injection hA with hA
  injection hA with hA
  subst hA hc;have hm:(j+1)*3<=xs.length*3:=Nat.mul_le_mul_right 3 hj;have hm2:xs.length*3<=cap*3:=Nat.mul_le_mul_right 3 hcap;obtain ⟨cs',e1,e2,e3,e4⟩:=cells_setCells (Xd y) (j*3) w cur hh (by simp only [Xd,List.length_cons,List.length_nil];omega);have hlen:(xs.set j y).length=xs.length:=List.length_set;refine ⟨_,cap,by rw [hlen], ?_,.inr ⟨g,cap,cs',by rw [hlen],hg,e1,by rw [hlen];exact hcap,hmax,by rw [e2];exact hsize, ?_⟩⟩
  ·rw [YI Xx]
  ·refine list_of_cells Xx (xs.set j y) cs' (by rw [hlen,e2];omega) (λ i hi q u hu=>?_);rw [hlen] at hi;have hq:q<3:=by
    rcases Nat.lt_or_ge q 3 with h3|h3
    ·exact h3
    ·rw [List.getElem?_eq_none (by rw [Xx];exact h3)] at hu;cases hu
   by_cases hij:i=j
   ·subst hij;rw [List.getElem_set_self] at hu;exact e3 q u hu
   ·rw [List.getElem_set_ne (λ e=>hij e.symm)] at hu;have h5:=Kz Xx xs i hi q u hu;rw [<- htake,List.getElem?_take] at h5;have h6:cur[i*3+q]? = some u:=by
     split at h5
     ·rw [<- Array.getElem?_toList];exact h5
     ·cases h5
    have h7:=e4 (i*3+q) (by
     rcases Nat.lt_or_ge i j with h8|h8
     ·left;have:=Nat.mul_le_mul_right 3 h8;omega
     ·right;have:=Nat.mul_le_mul_right 3 (show j+1<=i by omega);simp only [Xd,List.length_cons,List.length_nil];omega)
    rw [h7];exact h6
theorem iTightest_c (A:Option Addr) (hs:List Half) (cap:Nat) (w:World) (hl:hs.length<=1048576) (hok:∀ h∈hs,Xt h=true) (hsl:Sl 3 Xd w A hs) :
 Calls Tryz.prog 166 #[.slice A hs.length cap] w λ e w'=>∃ v,e=.returned v/\XI 136 3 Xd w' w.heap.size v (Y8 hs)/\Below w.heap.size w w':=by
 have HK:=Lib.hid hok;have HT:=Lib.hid (λ k=>gtight_ok (hs:=hs.take k) (λ h hh=>hok h (List.mem_of_mem_take hh)));have HL:=Lib.hid (λ k=>tight_len (hs.take k));have HS:=Lib.hid (λ k h=>@gtight_step hs k h);clear hok;go_enter Tryz.func166,Tryz.ntmps166
 go_wp2
 go_loopw [3,5,6,9] (λ vo _ _ i wr=>∃ k:Nat,k<=hs.length/\i=.int .i64 k/\XI 136 3 Xd wr w.heap.size vo (Y8 (hs.take k))/\Below w.heap.size w wr) (λ _ _ _ i _=>hs.length-(intOf i).toNat)
 case atStart=>exact ⟨0,Nat.zero_le _,rfl,⟨none,0,rfl,by simp [Y8],.inl ⟨rfl,rfl⟩⟩,Below.refl _ _⟩
 case round =>
  obtain ⟨k,hk,rfl,hN,hbr⟩:=hrel;by_cases hlt:k<hs.length
  ·obtain ⟨b,off,hA,hblt,hc⟩:=(hsl.below hbr).at_ hlt;have g0:=hc 0 _ rfl;have g1:=hc 1 _ rfl;have g2:=hc 2 _ rfl;simp only [Nat.add_zero] at g0;have hh:=HK.out _ (List.getElem_mem hlt);have hT:=HT.out k;have hln:(Y8 (hs.take k)).length<=1048576:=by
    have:=HL.out k;rw [List.length_take] at this;omega
   have hst:=Lib.hid (HS.out k hlt);have i1:(k:Int)<(hs.length:Int):=Oz
   clear hc;subst hA;obtain ⟨A2,c2,rfl,hr⟩:=hN;have hN:XI 136 3 Xd wr w.heap.size (.slice A2 (Y8 (hs.take k)).length c2) (Y8 (hs.take k)):=⟨A2,c2,rfl,hr⟩;clear hr;generalize hG:Y8 (hs.take k)=out at *;clear hG;generalize hs[k]=h at *;have HX:=XV.new wr #[.int .i64 h.a,.int .i64 h.b,.int .i64 h.c] 136;replace hN:=hN.alloc (.cells #[.int .i64 h.a,.int .i64 h.b,.int .i64 h.c] 136);have hbr2:=Xc hbr (.cells #[.int .i64 h.a,.int .i64 h.b,.int .i64 h.c] 136);have hgx:w.heap.size<=wr.heap.size:=hbr.size;go_upto_region 5 with fail
   generalize hW:wr.alloc (.cells #[.int .i64 h.a,.int .i64 h.b,.int .i64 h.c] 136)=wa at *;clear hW g0 g1 g2 hblt;generalize wr.heap.size=gx at *;have hNS:=hN.out Xx;have hM:=Lib.hid (λ j hj hq=>@gins_at out h j hj hq);go_wp2
   go_loopw [6] (λ v6 wq=>∃ j:Nat,j<=out.length/\v6=.int .i64 j/\Hid (∀ q,q<j->ZU (out.getD q Xa) h=true)/\Below wa.heap.size wa wq) (λ v6 _=>out.length-(intOf v6).toNat)
   case atStart=>exact ⟨0,Nat.zero_le _,rfl,by simp [Hid],Below.refl _ _⟩
   case round =>
    obtain ⟨j,hj,rfl,hq,hbq⟩:=hrel;have hNq:=hN.below hbq XE;have HXq:=HX.below hbq;have hbrq:=Xe hbr2 hbq;have lX:=HXq.1;obtain ⟨cHXq_0,fHXq_0⟩:=HXq.2 0 _ rfl;obtain ⟨cHXq_1,fHXq_1⟩:=HXq.2 1 _ rfl;obtain ⟨cHXq_2,fHXq_2⟩:=HXq.2 2 _ rfl;by_cases hlj:j<out.length
    ·obtain ⟨g,cur,hA2,hg1,hg2,hg3,hcap,hcs⟩:=hNq.row Oz;obtain ⟨b3,off3,hE,_,hc⟩:=(hNS.below hbq).at_ hlj;rw [hA2] at hE;cases hE;subst hA2;have g0:=hc 0 _ rfl;have g1:=hc 1 _ rfl;have g2:=hc 2 _ rfl;simp only [Nat.add_zero,Nat.zero_add] at g0 g1 g2;have hy:=hT _ (List.getElem_mem hlj);have hgj:=ZA hlj;have hm1:=(hM.out j hj hq.out).2 hlj;rw [hgj] at hm1;have hq1:=Lib.hid (λ(e:ZU out[j] h=true)=>show ∀ q,q<j+1->ZU (out.getD q Xa) h=true from by
      intro q h1;rcases Nat.lt_or_ge q j with h2|h2
      ·exact hq.out q h2
      ·obtain rfl:q=j:=Oz
       rw [hgj];exact e)
     have i2:(j:Int)<(out.length:Int):=Oz
     have hS3:=Lib.hid (λ(w':World) (hn:XI 136 3 Xd w' w.heap.size (.slice (some ⟨g,0,none⟩) out.length c2) out) (y:Half)=>XI.set3 (y:=y) hn hlj);clear hc hgj hq;generalize out[j]=y at *;have c1:=λ W=>iBef_c y h W (KS hy) (KS hh);have c2':=λ W=>iSame_c y h W (KS hy) (KS hh);have c3:=λ W e=>iTighter_c y h W hy hh e;cases hb:ZU y h
     ·rw [hb] at c1;have hm2:=hm1 hb;clear hm1 hq1;cases hs2:Yo y h
      ·rw [hs2] at c2';have hg5:=Lib.hid (hm2.2 hs2);clear hm2 c3;go_wp2
       go_region_held3 (λ w'=>(∀ b o,b<wr.heap.size->w'.cell? ⟨b,o,none⟩=wr.cell? ⟨b,o,none⟩)/\wr.heap.size<=w'.heap.size) (first|exact ⟨λ _ _ _=>rfl,by simp⟩|exact Yw (by assumption) (by assumption)|(repeat (first|(with_reducible assumption)|(with_reducible refine Zb _ ?_)|(with_reducible refine Zc ?_)|(with_reducible refine YH ?_ _)|(with_reducible refine ZT ?_ ?_ _)|(focus (simp;done))|(focus (simp;omega))|(focus omega))))
        (first|(go_at_call 188;go_must ((with_reducible refine (c1 _).mono ?_);rintro e w1 ⟨rfl,hb1⟩)))
       rename_i hheld
       clear hheld;have B1:Below wr.heap.size wr w1:=by exact Xl
       have r1:=Xh B1;have l1:=blt B1 lX;have l2:=blt B1 hg2;have hN1:=hNq.below B1 XE;have hb1r:=Xe hbrq B1;go_upto_region 8 with fail
       have HX1:=HXq.below B1;have k0:w1.cell? ⟨g,j*3,none⟩=_:=(r1 _ _ hg2).trans g0;have k1:w1.cell? ⟨g,j*3+1,none⟩=_:=(r1 _ _ hg2).trans g1;have k2:w1.cell? ⟨g,j*3+2,none⟩=_:=(r1 _ _ hg2).trans g2;clear r1 cHXq_0 cHXq_1 cHXq_2 fHXq_0 fHXq_1 fHXq_2 g0 g1 g2;obtain ⟨cHX1_0,fHX1_0⟩:=HX1.2 0 _ rfl;obtain ⟨cHX1_1,fHX1_1⟩:=HX1.2 1 _ rfl;obtain ⟨cHX1_2,fHX1_2⟩:=HX1.2 2 _ rfl;go_region_held3 (λ w'=>(∀ b o,b<w1.heap.size->w'.cell? ⟨b,o,none⟩=w1.cell? ⟨b,o,none⟩)/\w1.heap.size<=w'.heap.size) (first|exact ⟨λ _ _ _=>rfl,by simp⟩|exact Yw (by assumption) (by assumption)|(repeat (first|(with_reducible assumption)|(with_reducible refine Zb _ ?_)|(with_reducible refine Zc ?_)|(with_reducible refine YH ?_ _)|(with_reducible refine ZT ?_ ?_ _)|(focus (simp;done))|(focus (simp;omega))|(focus omega))))
        (first|(go_at_call 189;go_must ((with_reducible refine (c2' _).mono ?_);rintro e w2 ⟨rfl,hb2⟩)))
       rename_i hheld
       clear hheld;have B2:Below w1.heap.size w1 w2:=by exact Xl
       have hN2:=hN1.below B2 XE;have hb2r:=Xe hb1r B2;have r2:=Xh B2;have l3:=blt B2 l1;have HX2:=HX1.below B2;clear cHX1_0 cHX1_1 cHX1_2 fHX1_0 fHX1_1 fHX1_2 r2 k0 k1 k2;obtain ⟨cHX2_0,fHX2_0⟩:=HX2.2 0 _ rfl;obtain ⟨cHX2_1,fHX2_1⟩:=HX2.2 1 _ rfl;obtain ⟨cHX2_2,fHX2_2⟩:=HX2.2 2 _ rfl;go_wp2_with (fail)
       refine (insert_c _ out j w.heap.size h _ hj hln hN2 hb2r.size).mono ?_;rintro e w5 ⟨v5,rfl,N5,hb5⟩;have hbz:=Below.trans hb2r hb5;go_wp2
       go_roundw
       case rel=>exact ⟨k+1,by omega,by go_num,by rw [hst.out,hg5.out];exact N5,hbz⟩
       case measure=>simp [intOf];omega
      ·rw [hs2] at c2';have hg5:=Lib.hid (hm2.1 hs2);replace c3:=λ W=>c3 W hs2;clear hm2;go_wp2
       go_region_held3 (λ w'=>(∀ b o,b<wr.heap.size->w'.cell? ⟨b,o,none⟩=wr.cell? ⟨b,o,none⟩)/\wr.heap.size<=w'.heap.size) (first|exact ⟨λ _ _ _=>rfl,by simp⟩|exact Yw (by assumption) (by assumption)|(repeat (first|(with_reducible assumption)|(with_reducible refine Zb _ ?_)|(with_reducible refine Zc ?_)|(with_reducible refine YH ?_ _)|(with_reducible refine ZT ?_ ?_ _)|(focus (simp;done))|(focus (simp;omega))|(focus omega))))
        (first|(go_at_call 188;go_must ((with_reducible refine (c1 _).mono ?_);rintro e w1 ⟨rfl,hb1⟩)))
       rename_i hheld
       clear hheld;have B1:Below wr.heap.size wr w1:=by exact Xl
       have r1:=Xh B1;have l1:=blt B1 lX;have l2:=blt B1 hg2;have hN1:=hNq.below B1 XE;have hb1r:=Xe hbrq B1;go_upto_region 8 with fail
       have HX1:=HXq.below B1;have k0:w1.cell? ⟨g,j*3,none⟩=_:=(r1 _ _ hg2).trans g0;have k1:w1.cell? ⟨g,j*3+1,none⟩=_:=(r1 _ _ hg2).trans g1;have k2:w1.cell? ⟨g,j*3+2,none⟩=_:=(r1 _ _ hg2).trans g2;clear r1 cHXq_0 cHXq_1 cHXq_2 fHXq_0 fHXq_1 fHXq_2 g0 g1 g2;obtain ⟨cHX1_0,fHX1_0⟩:=HX1.2 0 _ rfl;obtain ⟨cHX1_1,fHX1_1⟩:=HX1.2 1 _ rfl;obtain ⟨cHX1_2,fHX1_2⟩:=HX1.2 2 _ rfl;go_region_held3 (λ w'=>(∀ b o,b<w1.heap.size->w'.cell? ⟨b,o,none⟩=w1.cell? ⟨b,o,none⟩)/\w1.heap.size<=w'.heap.size) (first|exact ⟨λ _ _ _=>rfl,by simp⟩|exact Yw (by assumption) (by assumption)|(repeat (first|(with_reducible assumption)|(with_reducible refine Zb _ ?_)|(with_reducible refine Zc ?_)|(with_reducible refine YH ?_ _)|(with_reducible refine ZT ?_ ?_ _)|(focus (simp;done))|(focus (simp;omega))|(focus omega))))
        (first|(go_at_call 189;go_must ((with_reducible refine (c2' _).mono ?_);rintro e w2 ⟨rfl,hb2⟩)))
       rename_i hheld
       clear hheld;have B2:Below w1.heap.size w1 w2:=by exact Xl
       have hN2:=hN1.below B2 XE;have hb2r:=Xe hb1r B2;have r2:=Xh B2;have l3:=blt B2 l1;have l4:=blt B2 l2;have HX2:=HX1.below B2;have q0:w2.cell? ⟨g,j*3,none⟩=_:=(r2 _ _ l2).trans k0;have q1:w2.cell? ⟨g,j*3+1,none⟩=_:=(r2 _ _ l2).trans k1;have q2:w2.cell? ⟨g,j*3+2,none⟩=_:=(r2 _ _ l2).trans k2;obtain ⟨_,cur2,hA3,_,_,hg6,_,hcs6⟩:=hN2.row (by omega);cases hA3;have z0:=λ m=>frozen_of_row w2 g m cur2 _ hg6;clear r2 cHX1_0 cHX1_1 cHX1_2 fHX1_0 fHX1_1 fHX1_2 k0 k1 k2 HX1 hg6 hcs6 hg3 hcs;obtain ⟨cHX2_0,fHX2_0⟩:=HX2.2 0 _ rfl;obtain ⟨cHX2_1,fHX2_1⟩:=HX2.2 1 _ rfl;obtain ⟨cHX2_2,fHX2_2⟩:=HX2.2 2 _ rfl;go_upto_region 9 with fail
       clear c1 c2' hT HXq HX B1 B2 hb1 hb2 hbq hb1r hN1 hNq hN hNS hbr2 hbr;generalize htt:Zu y h=t at *;clear htt;go_region_with ((go_at_call 190;go_must (refine (c3 _).mono ?_;rintro e w3 ⟨rfl,hb3⟩;have r3:=Xh hb3;have f3:=(bcell hb3).2;have x0:w3.cell? ⟨g,j*3,none⟩=_:=(r3 _ _ (by simpa using l4)).trans q0;have x1:w3.cell? ⟨g,j*3+1,none⟩=_:=(r3 _ _ (by simpa using l4)).trans q1;have x2:w3.cell? ⟨g,j*3+2,none⟩=_:=(r3 _ _ (by simpa using l4)).trans q2;have y0:w3.frozen? ⟨g,j*3,none⟩=false:=(f3 _ _ (by simpa using l4)).trans (z0 _);have y1:w3.frozen? ⟨g,j*3+1,none⟩=false:=(f3 _ _ (by simpa using l4)).trans (z0 _);have y2:w3.frozen? ⟨g,j*3+2,none⟩=false:=(f3 _ _ (by simpa using l4)).trans (z0 _);clear r3 f3)))
       all_goals
        have hN3:=XI.below (w:=w2.drew) hN2 hb3 XE;have hN4:=hS3.out w3 hN3 t;have hb3r:Below w.heap.size w w3:=Xe (Below.drew hb2r) hb3;have hbz:=((hb3r.setCell (p:=⟨g,j*3,none⟩) hg1 (.int .i64 t.a)).setCell (p:=⟨g,j*3+1,none⟩) hg1 (.int .i64 t.b)).setCell (p:=⟨g,j*3+2,none⟩) hg1 (.int .i64 t.c);clear x0 x1 x2 y0 y1 y2 q0 q1 q2 z0;go_wp2
        go_roundw
        case rel=>exact ⟨k+1,by omega,by go_num,by rw [hst.out,hg5.out];exact hN4,hbz⟩
        case measure=>simp [intOf];omega
     ·rw [hb] at c1;have hq2:=Lib.hid (hq1.out hb);clear hm1 hq1 c2' c3;go_wp2
      go_region_held3 (λ w'=>(∀ b o,b<wr.heap.size->w'.cell? ⟨b,o,none⟩=wr.cell? ⟨b,o,none⟩)/\wr.heap.size<=w'.heap.size) (first|exact ⟨λ _ _ _=>rfl,by simp⟩|exact Yw (by assumption) (by assumption)|(repeat (first|(with_reducible assumption)|(with_reducible refine Zb _ ?_)|(with_reducible refine Zc ?_)|(with_reducible refine YH ?_ _)|(with_reducible refine ZT ?_ ?_ _)|(focus (simp;done))|(focus (simp;omega))|(focus omega))))
       (first|(go_at_call 188;go_must ((with_reducible refine (c1 _).mono ?_);rintro e w1 ⟨rfl,hb1⟩)))
      have B1:Below wr.heap.size wr w1:=by exact Xl
      go_wp2
      go_roundw
      case rel=>exact ⟨j+1,by omega,by go_num,hq2,Xe hbq B1⟩
      case measure=>simp [intOf];omega
    ·obtain rfl:j=out.length:=Oz
     have hg5:=Lib.hid ((hM.out out.length hj hq.out).1 rfl);clear hq;go_wp2
     go_big_quiet (fail)
     go_wp2
     go_big_quiet (fail)
     go_wp2_with (fail)
     refine (insert_c _ out _ w.heap.size h (wr.drewN _) XE hln hNq hbrq.size).mono ?_;rintro e w5 ⟨v5,rfl,N5,hb5⟩;have hbz:=Below.trans (YQ hbrq _) hb5;go_wp2
     go_roundw
     case rel=>exact ⟨k+1,by omega,by go_num,by rw [hst.out,hg5.out];exact N5,hbz⟩
     case measure=>simp [intOf];omega
  ·obtain rfl:k=hs.length:=Oz
   rw [List.take_length] at hN;go_wp2
   go_ret
   exact ⟨_,rfl,hN,hbr⟩
end Go.Proofs.YtbekjpkcicjcgaaGreat
