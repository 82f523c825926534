/- Rules that are valid: program and reference tell the same. Conditions: sizes of rows as the rows' forms allow. -/
import Derived.Test.YtgalpgakdcfilaaGreatLawHas
import Derived.Test.YtgalpgakdcfilaaGreatL11
import Derived.Test.YtgalpgakdcfilaaGreatL35
import Derived.Test.YtgalpgakdcfilaaGreatL37
namespace Go.Proofs.YtgalpgakdcfilaaGreat.L
set_option linter.unusedVariables false
set_option linter.unusedSimpArgs false
open Go.RowKit Go.Proofs.YtgalpgakdcfilaaGreatW.PrintWords Go.Proofs.YtgalpgakdcfilaaGreat.PK
def hasB(l:List Int)(x:Int):Bool:=l.any fun y=>decide (y=x)
theorem spec_has(l:List Int)(x:Int)(hl:l.length≤35184372088832):Ev (fun k=>spec_l02Has.f k l x) (hasB l x):=by
  refine Ev.some_ (fun i k=>spec_l02Has.l0 k x l (l.length:Int) (i:Int)) l _ (fun i h e r hr=>?_) (fun i h e=>?_) ?_
  · refine Ev.step (fun k=>spec_l02Has.l0.eq_2 ..) (Ev.pos (by omega) (Ev.pos (by omega) (Ev.pos (by omega) (Ev.neg (by rw[rd_nat h];exact of_decide_eq_false e) ?_))))
    rw[w64s (by omega)];exact hr
  · exact Ev.step (fun k=>spec_l02Has.l0.eq_2 ..) (Ev.pos (by omega) (Ev.pos (by omega) (Ev.pos (by omega) (Ev.pos (by rw[rd_nat h];exact of_decide_eq_true e) (Ev.now _)))))
  · exact Ev.step (fun k=>spec_l02Has.l0.eq_2 ..) (Ev.neg (by omega) (Ev.now _))
theorem impl_has(l:List Int)(x:Int)(hl:l.length≤35184372088832):Ev (fun k=>slices_Contains_int_int.f k l x) (hasB l x):=by
  obtain⟨r,h1,h2⟩:=Ev.place (fun i k=>slices_Index_int_int.l0 k l x (l.length:Int) (i:Int)) l (fun y=>decide (y=x)) (fun i h e r hr=>by
    refine Ev.step (fun k=>slices_Index_int_int.l0.eq_2 ..) (Ev.pos (by omega) (Ev.pos (by omega) (Ev.pos (by omega) (Ev.neg (by rw[rd_nat h];exact fun q=>of_decide_eq_false e q.symm) ?_))))
    rw[w64s (by omega)];exact hr) (fun i h e=>
    Ev.step (fun k=>slices_Index_int_int.l0.eq_2 ..) (Ev.pos (by omega) (Ev.pos (by omega) (Ev.pos (by omega) (Ev.pos (by rw[rd_nat h];exact(of_decide_eq_true e).symm) (Ev.now _))))))
    (Ev.step (fun k=>slices_Index_int_int.l0.eq_2 ..) (Ev.neg (by omega) (Ev.now _)))
  unfold hasB
  rw[←h2]
  exact Ev.bind h1 (Ev.now _)
def keyB(l:List Int)(i:Nat):Bool:=decide (1≤l.getD i 0∧l.getD i 0≤8)&& !hasB (l.take i) (l.getD i 0)
def rulesB(a b c:Int)(l:List Int):Bool:=(decide (0≤a∧a≤10)&&(decide (0≤b∧b≤a)&&(decide (0≤c∧c≤b)&&decide (1≤l.length∧l.length≤8))))&&(List.range l.length).all (keyB l)
theorem spec_in(a b c:Int):spec_l01In.f a b c=some (decide (b≤a∧a≤c)):=by
  unfold spec_l01In.f
  by_cases h:b≤a
  · rw[if_pos h];simp [h]
  · rw[if_neg h];simp [h]
theorem impl_in(a b c:Int):impl_within.f a b c=some (decide (b≤a∧a≤c)):=by
  unfold impl_within.f
  by_cases h:b≤a
  · rw[if_pos h];simp [h]
  · rw[if_neg h];simp [h]
theorem rd_D{l:List Int}{i:Nat}(h:i<l.length):rd l (i:Int)=l.getD i 0:=by simp [rd]
theorem spec_rules(a b c:Int)(l:List Int)(d:Bool)(hl:l.length≤35184372088832):Ev (fun k=>spec_RulesOk.f k a b c l d) (rulesB a b c l):=by
  have hno:Ev (fun k=>spec_RulesOk.j0 k true a b c l d) false:=Ev.step (fun k=>spec_RulesOk.j0.eq_2 ..) (Ev.pos rfl (Ev.now _))
  unfold spec_RulesOk.f rulesB
  refine Ev.bind0 (spec_in _ _ _) ?_
  by_cases h1:0≤a∧a≤10
  · rw[decide_eq_true h1,Bool.true_and]
    refine Ev.pos rfl (Ev.bind0 (spec_in _ _ _) ?_)
    by_cases h2:0≤b∧b≤a
    · rw[decide_eq_true h2,Bool.true_and]
      refine Ev.pos rfl (Ev.bind0 (spec_in _ _ _) ?_)
      by_cases h3:0≤c∧c≤b
      · rw[decide_eq_true h3,Bool.true_and]
        refine Ev.pos rfl (Ev.bind0 (spec_in _ _ _) ?_)
        by_cases h4:1≤l.length∧l.length≤8
        · rw[decide_eq_true h4,Bool.true_and,decide_eq_true (show(1:Int)≤(l.length:Int)∧(l.length:Int)≤8 by omega)]
          refine Ev.step (fun k=>spec_RulesOk.j0.eq_2 ..) (Ev.neg (by simp) ?_)
          have:=Ev.all (fun i k=>spec_RulesOk.l0 k l (l.length:Int) (i:Int) a b c l d) (List.range l.length) (keyB l) true (fun i h ht r hr=>by
            simp only[List.length_range]at h
            simp only[List.getElem_range]at ht
            simp only[keyB,Bool.and_eq_true]at ht
            refine Ev.step (fun k=>spec_RulesOk.l0.eq_2 ..) (Ev.pos (by omega) (Ev.pos (by omega) (Ev.pos (by omega) (Ev.bind0 (spec_in _ _ _) (Ev.pos (by rw[rd_D h];exact ht.1) (Ev.pos (by omega) (Ev.bind (spec_has _ _ (by simp;omega)) (Ev.neg ?_ ?_))))))))
            · rw[rd_D h,Int.toNat_natCast];simpa using ht.2
            · rw[w64s (by omega)];exact hr) (fun i h ht=>by
            simp only[List.length_range]at h
            simp only[List.getElem_range]at ht
            refine Ev.step (fun k=>spec_RulesOk.l0.eq_2 ..) (Ev.pos (by omega) (Ev.pos (by omega) (Ev.pos (by omega) (Ev.bind0 (spec_in _ _ _) ?_))))
            rw[rd_D h]
            unfold keyB at ht
            by_cases c1:1≤l.getD i 0∧l.getD i 0≤8
            · rw[decide_eq_true c1,Bool.true_and]at ht
              rw[decide_eq_true c1]
              exact Ev.pos rfl (Ev.pos (by omega) (Ev.bind (spec_has _ _ (by simp;omega)) (Ev.pos (by rw[Int.toNat_natCast];simpa using ht) (Ev.now _))))
            · rw[decide_eq_false c1]
              exact Ev.neg (by simp) (Ev.now _)) (by
            rw[List.length_range]
            exact Ev.step (fun k=>spec_RulesOk.l0.eq_2 ..) (Ev.neg (by omega) (Ev.now _)))
          simpa using this
        · rw[decide_eq_false h4,Bool.false_and,decide_eq_false (show ¬((1:Int)≤(l.length:Int)∧(l.length:Int)≤8) by omega)]
          exact hno
      · rw[decide_eq_false h3,Bool.false_and,Bool.false_and]
        exact Ev.neg (by simp) hno
    · rw[decide_eq_false h2,Bool.false_and,Bool.false_and]
      exact Ev.neg (by simp) hno
  · rw[decide_eq_false h1,Bool.false_and,Bool.false_and]
    exact Ev.neg (by simp) hno
theorem impl_key(x:Int):impl_isKey.f x=some (decide (1≤x∧x≤8)):=by unfold impl_isKey.f;rw[impl_in];rfl
theorem impl_rules(a b c:Int)(l:List Int)(d:Bool)(hl:l.length≤35184372088832):Ev (fun k=>impl_RulesOk.f k a b c l d) (rulesB a b c l):=by
  unfold rulesB
  rw[Bool.and_comm]
  have:=Ev.all (fun i k=>impl_RulesOk.l0 k l (l.length:Int) (i:Int) a b c l d) (List.range l.length) (keyB l) (decide (0≤a∧a≤10)&&(decide (0≤b∧b≤a)&&(decide (0≤c∧c≤b)&&decide (1≤l.length∧l.length≤8)))) (fun i h ht r hr=>by
    simp only[List.length_range]at h
    simp only[List.getElem_range]at ht
    simp only[keyB,Bool.and_eq_true]at ht
    refine Ev.step (fun k=>impl_RulesOk.l0.eq_2 ..) (Ev.pos (by omega) (Ev.pos (by omega) (Ev.pos (by omega) (Ev.bind0 (impl_key _) (Ev.pos (by rw[rd_D h];exact ht.1) (Ev.pos (by omega) (Ev.bind (impl_has _ _ (by simp;omega)) (Ev.neg ?_ ?_))))))))
    · rw[rd_D h,Int.toNat_natCast];simpa using ht.2
    · rw[w64s (by omega)];exact hr) (fun i h ht=>by
    simp only[List.length_range]at h
    simp only[List.getElem_range]at ht
    refine Ev.step (fun k=>impl_RulesOk.l0.eq_2 ..) (Ev.pos (by omega) (Ev.pos (by omega) (Ev.pos (by omega) (Ev.bind0 (impl_key _) ?_))))
    rw[rd_D h]
    unfold keyB at ht
    by_cases c1:1≤l.getD i 0∧l.getD i 0≤8
    · rw[decide_eq_true c1,Bool.true_and]at ht
      rw[decide_eq_true c1]
      exact Ev.pos rfl (Ev.pos (by omega) (Ev.bind (impl_has _ _ (by simp;omega)) (Ev.pos (by rw[Int.toNat_natCast];simpa using ht) (Ev.now _))))
    · rw[decide_eq_false c1]
      exact Ev.neg (by simp) (Ev.now _)) (by
    rw[List.length_range]
    refine Ev.step (fun k=>impl_RulesOk.l0.eq_2 ..) (Ev.neg (by omega) ?_)
    by_cases h1:0≤c
    · by_cases h2:c≤b
      · by_cases h3:b≤a
        · by_cases h4:a≤10
          · refine Ev.pos h1 (Ev.pos h2 (Ev.pos h3 (Ev.pos h4 (Ev.bind0 (impl_in _ _ _) ?_))))
            rw[decide_eq_true (show 0≤a∧a≤10 by omega),decide_eq_true (show 0≤b∧b≤a by omega),decide_eq_true (show 0≤c∧c≤b by omega),Bool.true_and,Bool.true_and,Bool.true_and,show decide (1≤l.length∧l.length≤8)=decide ((1:Int)≤(l.length:Int)∧(l.length:Int)≤8)from decide_eq_decide.2 (by omega)]
            exact Ev.now _
          · refine Ev.pos h1 (Ev.pos h2 (Ev.pos h3 (Ev.neg h4 ?_)))
            rw[decide_eq_false (show ¬(0≤a∧a≤10) by omega),Bool.false_and]
            exact Ev.now _
        · refine Ev.pos h1 (Ev.pos h2 (Ev.neg h3 ?_))
          rw[decide_eq_false (show ¬(0≤b∧b≤a) by omega),Bool.false_and,Bool.and_false]
          exact Ev.now _
      · refine Ev.pos h1 (Ev.neg h2 ?_)
        rw[decide_eq_false (show ¬(0≤c∧c≤b) by omega),Bool.false_and,Bool.and_false,Bool.and_false]
        exact Ev.now _
    · refine Ev.neg h1 ?_
      rw[decide_eq_false (show ¬(0≤c∧c≤b) by omega),Bool.false_and,Bool.and_false,Bool.and_false]
      exact Ev.now _)
  exact this
end Go.Proofs.YtgalpgakdcfilaaGreat.L
