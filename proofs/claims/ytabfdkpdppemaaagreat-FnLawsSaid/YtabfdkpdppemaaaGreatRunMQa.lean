/-
 The run of a room, step by step, in plain words.
 Conditions: none.
-/
import Derived.Test.YtabfdkpdppemaaaGreatGrAQa
import Derived.Test.YtabfdkpdppemaaaGreatRunM
import Derived.Laws.StructEq
import Derived.JoinedOf
import Derived.Test.YtabfdkpdppemaaaGreatVbQd
namespace Go.Proofs.YtabfdkpdppemaaaGreat
open Go.RowKit
def hasS (p:List Half) (s:XQ):Bool:=!decide (p.length=0)&&Xv s&&Xi p&&Zl p s
variable {r:XK} {p:List Half} {s:XQ} {ws:List Int} {ns:List XQ}
end Go.Proofs.YtabfdkpdppemaaaGreat
namespace Go.Proofs.YtabfdkpdppemaaaGreat
open Go.RowKit
section
variable {a:Act} {w:World} {N:Act->World->Prop} {Q:Exit->Act->World->Prop} {o:Oper} {x y:Operand} {T':TypeId}
theorem wp_eqS (h:o.op=.binOp .eql 49 x y T') {r s:Zg} (ex:a.eval x=Zm r) (ey:a.eval y=Zm s) (hn:N (a.put o.dst (.bool (decide (r=s)))) w):o.wp Tryz.prog a w N Q:=by
 refine opv ?_ hn;unfold execOp;rw [h];simp only;rw [ex,ey];obtain ⟨⟨a,b⟩,c,d⟩:=r;obtain ⟨⟨a',b'⟩,c',d'⟩:=s;simp [go_sem];by_cases h1:a=a'<;>by_cases h2:b=b'<;>by_cases h3:c=c'<;>by_cases h4:d=d'<;>simp [h1,h2,h3,h4]
end
structure PcB (a b c d:Int):Prop where
 fa : -10000000<=a/\a<=10000000
 fb : -10000000<=b/\b<=10000000
 fc : -10000000000<=c/\c<=10000000000
 fd : -10000000000<=d/\d<=10000000000
 nz:d≠0
theorem PcB.neg {a b c d:Int} (h:PcB a b c d):PcB (-a) (-b) (-c) (-d):=by
 have h1:=h.fa;have h2:=h.fb;have h3:=h.fc;have h4:=h.fd;have h5:=h.nz;exact ⟨by omega,by omega,by omega,by omega,by omega⟩
theorem j3_FnLaws:(Rows.fnLawsRow.recurses == Tryz.prog.recurses 10)=true:=by kernel_rfl
theorem j4_FnLaws:(Rows.fnLawsRow.named == Tryz.prog.varsNamed 10)=true:=by kernel_rfl
theorem j1_FnLaws:(Rows.fnLawsRow.inPlace == Tryz.prog.inPlace 10)=true:=by kernel_rfl
theorem j2_FnLaws:(Rows.fnLawsRow.unfollowed == Tryz.prog.unfollowed 10)=true:=by kernel_rfl
theorem pieceC_one (x:Yu):∀ u∈J5 x,u.oneCell'=true:=by
 intro u hu;simp only [J5,List.mem_cons,List.not_mem_nil,or_false] at hu;rcases hu with rfl|rfl|rfl|rfl<;>rfl
def pX (r:XK) (x y:Int):Int:=r.map.getD 0 0*x+r.map.getD 1 0*y
def pY (r:XK) (x y:Int):Int:=r.map.getD 2 0*x+r.map.getD 3 0*y
theorem pul_pts {r:XK} {h g:Half} (e:YD r.map r.div h=some g) {x y d:Int}:Zf g x y d ↔ Zf h (pX r x y) (pY r x y) (r.div*d):=by
 unfold YD at e;rw [halfOf_pts e];unfold Zf pX pY;have e1:(h.a*r.map.getD 0 0+h.b*r.map.getD 2 0)*x+(h.a*r.map.getD 1 0+h.b*r.map.getD 3 0)*y=h.a*(r.map.getD 0 0*x+r.map.getD 1 0*y)+h.b*(r.map.getD 2 0*x+r.map.getD 3 0*y):=by grind
 rw [e1,Int.mul_assoc]
end Go.Proofs.YtabfdkpdppemaaaGreat
