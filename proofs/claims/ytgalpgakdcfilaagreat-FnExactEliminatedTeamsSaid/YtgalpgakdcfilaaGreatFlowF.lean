/- The greatest flow of both is the same. Conditions: a valid net. -/
import Derived.Test.YtgalpgakdcfilaaGreatFlowF0
import Derived.Test.YtgalpgakdcfilaaGreatFlowD
import Derived.Test.YtgalpgakdcfilaaGreatL31
namespace Go.Proofs.YtgalpgakdcfilaaGreat.L
set_option linter.unusedVariables false
set_option linter.unusedSimpArgs false
open Go.RowKit Go.Proofs.YtgalpgakdcfilaaGreatW.PrintWords Go.Proofs.YtgalpgakdcfilaaGreat.PK Go.Proofs.YtgalpgakdcfilaaGreatW.PrintMore
theorem spec_stops{n:Nat}{w:List P1}(he:Ends n w){a b:Nat}(ha:a<n)(hb:b<n):Stops n w a b (fun f k=>spec_GreatestFlow.l0 k (a:Int) (b:Int) f (n:Int) w):=fun f hf c=>by
  have hl:(reachR n w f a).length=n:=by obtain⟨_,_,T⟩:=reachR_tree he f a ha;exact T.1
  refine Ev.step (fun k=>spec_GreatestFlow.l0.eq_2 ..) (Ev.bind (spec_reach_tells he f hf.1.1 a ha) (Ev.pos (by omega) (Ev.pos (by simp;omega) (Ev.neg ?_ (Ev.now _)))))
  rw[rd_seen _ _ (by omega)];exact c
theorem spec_steps{n:Nat}{w:List P1}(he:Ends n w){a b:Nat}(ha:a<n)(hb:b<n):Steps n w a b (fun f k=>spec_GreatestFlow.l0 k (a:Int) (b:Int) f (n:Int) w):=fun f rk cc r hf T c g3=>by
  have hl:=T.1
  refine Ev.step (fun k=>spec_GreatestFlow.l0.eq_2 ..) (Ev.bind (spec_reach_tells he f hf.1.1 a ha) (Ev.pos (by omega) (Ev.pos (by simp;omega) (Ev.pos (by rw[rd_seen _ _ (by omega)];exact c) ?_))))
  exact spec_room he T hf.1.1 _ _ _ (rk b) b 1000 hb c (Nat.le_refl _) (spec_chg he T _ _ _ _ (rk b) b f hf.1.1 hb c (Nat.le_refl _) g3)
end Go.Proofs.YtgalpgakdcfilaaGreat.L
