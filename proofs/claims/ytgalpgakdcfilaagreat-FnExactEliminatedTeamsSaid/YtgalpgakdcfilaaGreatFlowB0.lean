/- Breadth first search of the program. Conditions: a valid net, flows for each pipe. -/
import Derived.Test.YtgalpgakdcfilaaGreatFlowA
import Derived.Test.YtgalpgakdcfilaaGreatL54
namespace Go.Proofs.YtgalpgakdcfilaaGreat.L
set_option linter.unusedVariables false
set_option linter.unusedSimpArgs false
open Go.RowKit Go.Proofs.YtgalpgakdcfilaaGreatW.PrintWords Go.Proofs.YtgalpgakdcfilaaGreat.PK
def bs0(n:Nat)(a:Nat):BS:=((List.replicate n z103).set a ⟨-1,false,true⟩,[(a:Int)])
theorem unseen_rep:∀n,unseen (List.replicate n z103)=n:=fun n=>by simp [unseen,List.countP_replicate,z103]
theorem bs0_bs{n a:Nat}(h:a<n):Bs n n (bs0 n a):=by
  have:=unseen_set (List.replicate n z103) a (by simpa using h) ⟨-1,false,true⟩ (by simp [z103]) rfl
  rw[unseen_rep]at this
  exact⟨by simp [bs0],by simp only[bs0,List.length_singleton];omega⟩
def reachR(n:Nat)(w:List P1)(f:List Int)(a:Nat):List HP:=bfs w f n (bs0 n a)
theorem impl_reach_tells{n:Nat}{w:List P1}(hw:Ends n w)(f:List Int)(hf:f.length=w.length)(a:Nat)(ha:a<n):Ev (fun k=>impl_reach.f k (n:Int) w (a:Int) f) (reachR n w f a):=by
  have hn:=hw.1
  unfold impl_reach.f
  refine Ev.pos (by omega) (Ev.pos (by omega) (Ev.pos (by omega) (Ev.pos (by simp;omega) ?_)))
  rw[Int.toNat_natCast,Int.toNat_natCast]
  exact impl_bfs hw f hf n n (bs0 n a) (Nat.le_refl _) hn (bs0_bs ha)
end Go.Proofs.YtgalpgakdcfilaaGreat.L
