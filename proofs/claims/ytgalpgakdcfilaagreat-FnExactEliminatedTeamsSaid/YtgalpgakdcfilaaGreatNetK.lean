/- Nets in books' laws: valid nets, equal nets, marks. No condition beyond sizes. -/
import Derived.Test.YtgalpgakdcfilaaGreatRulesA
import Derived.Test.YtgalpgakdcfilaaGreatPK2
import Derived.Test.YtgalpgakdcfilaaGreatLawBook
import Derived.Test.YtgalpgakdcfilaaGreatL27
import Derived.Test.YtgalpgakdcfilaaGreatL50
namespace Go.Proofs.YtgalpgakdcfilaaGreat.L
set_option linter.unusedVariables false
set_option linter.unusedSimpArgs false
open Go.RowKit Go.Proofs.YtgalpgakdcfilaaGreatW.PrintWords Go.Proofs.YtgalpgakdcfilaaGreat.PK
abbrev P1:=S71
theorem rd1_nat{x:List P1}{i:Nat}(h:i<x.length):rd_T71 x (i:Int)=x[i]:=by simp [rd_T71,List.getD_eq_getElem?_getD,h]
def okP(m:Int)(p:P1):Bool:=decide (0≤p.f0∧p.f0≤m)&&(decide (0≤p.f1∧p.f1≤m)&&(!decide (p.f0=p.f1)&&decide (0≤p.f2∧p.f2≤1000)))
def netB(n:Int)(w:List P1):Bool:=w.all (okP (wrap64 (n-1)))&&(decide (2≤n∧n≤40)&&decide ((w.length:Int)≤120))
theorem impl_net(n:Int)(w:List P1)(hw:w.length≤1099511627776):Ev (fun k=>impl_NetOk.f k n w) (netB n w):=by
  have:=Ev.all (fun i k=>impl_NetOk.l0 k w (w.length:Int) (i:Int) n w) w (okP (wrap64 (n-1))) (decide (2≤n∧n≤40)&&decide ((w.length:Int)≤120)) (fun i hi ht r h=>by
    simp only[okP,Bool.and_eq_true,decide_eq_true_eq,Bool.not_eq_true',decide_eq_false_iff_not]at ht
    refine Ev.step (fun k=>impl_NetOk.l0.eq_2 ..) (Ev.pos (by omega) (Ev.pos (by omega) (Ev.pos (by omega) ?_)))
    rw[rd1_nat hi,w64s (by omega)]
    exact Ev.bind0 (impl_in _ _ _) (Ev.pos (by simpa using ht.1) (Ev.bind0 (impl_in _ _ _) (Ev.pos (by simpa using ht.2.1) (Ev.neg ht.2.2.1 (Ev.bind0 (impl_in _ _ _) (Ev.pos (by simpa using ht.2.2.2) h)))))))
    (fun i hi ht=>by
    refine Ev.step (fun k=>impl_NetOk.l0.eq_2 ..) (Ev.pos (by omega) (Ev.pos (by omega) (Ev.pos (by omega) ?_)))
    rw[rd1_nat hi]
    refine Ev.bind0 (impl_in _ _ _) ?_
    by_cases h1:0≤w[i].f0∧w[i].f0≤wrap64 (n-1)
    · refine Ev.pos (by simpa using h1) (Ev.bind0 (impl_in _ _ _) ?_)
      by_cases h2:0≤w[i].f1∧w[i].f1≤wrap64 (n-1)
      · refine Ev.pos (by simpa using h2) ?_
        by_cases h3:w[i].f0=w[i].f1
        · exact Ev.pos h3 (Ev.now _)
        · refine Ev.neg h3 (Ev.bind0 (impl_in _ _ _) ?_)
          refine Ev.neg (fun h4=>?_) (Ev.now _)
          simp [okP,h1,h2,h3]at ht
          simp at h4
          omega
      · exact Ev.neg (by simpa using h2) (Ev.now _)
    · exact Ev.neg (by simpa using h1) (Ev.now _)) (by
    refine Ev.step (fun k=>impl_NetOk.l0.eq_2 ..) (Ev.neg (by omega) (Ev.bind0 (impl_in _ _ _) ?_))
    by_cases h:2≤n∧n≤40
    · rw[decide_eq_true h];exact Ev.pos rfl (Ev.now _)
    · rw[decide_eq_false h];exact Ev.neg (by simp) (Ev.now _))
  exact this
theorem spec_net(n:Int)(w:List P1)(hw:w.length≤1099511627776):Ev (fun k=>spec_NetOk.f k n w) (netB n w):=by
  simp only[spec_NetOk.f,spec_in]
  refine Ev.bind0 rfl ?_
  have j0:Ev (fun k=>spec_NetOk.j0 k true n w) false:=Ev.step (fun k=>spec_NetOk.j0.eq_2 ..) (Ev.pos rfl (Ev.now _))
  by_cases hn:2≤n∧n≤40
  · refine Ev.pos (by simpa using hn) ?_
    by_cases hl:(w.length:Int)>120
    · have:netB n w=false:=by simp [netB];omega
      rw[this,decide_eq_true hl]
      exact j0
    · rw[decide_eq_false hl]
      have key:=Ev.all (fun i k=>spec_NetOk.l0 k w (w.length:Int) (i:Int) n w) w (okP (wrap64 (n-1))) true (fun i hi ht r h=>by
        simp only[okP,Bool.and_eq_true,decide_eq_true_eq,Bool.not_eq_true',decide_eq_false_iff_not]at ht
        refine Ev.step (fun k=>spec_NetOk.l0.eq_2 ..) (Ev.pos (by omega) (Ev.pos (by omega) (Ev.pos (by omega) ?_)))
        rw[rd1_nat hi,w64s (by omega)]
        exact Ev.bind0 (spec_in _ _ _) (Ev.pos (by simpa using ht.1) (Ev.bind0 (spec_in _ _ _) (Ev.pos (by simpa using ht.2.1) (Ev.neg ht.2.2.1 (Ev.bind0 (spec_in _ _ _) (Ev.pos (by simpa using ht.2.2.2) h)))))))
        (fun i hi ht=>by
        refine Ev.step (fun k=>spec_NetOk.l0.eq_2 ..) (Ev.pos (by omega) (Ev.pos (by omega) (Ev.pos (by omega) ?_)))
        rw[rd1_nat hi]
        refine Ev.bind0 (spec_in _ _ _) ?_
        by_cases h1:0≤w[i].f0∧w[i].f0≤wrap64 (n-1)
        · refine Ev.pos (by simpa using h1) (Ev.bind0 (spec_in _ _ _) ?_)
          by_cases h2:0≤w[i].f1∧w[i].f1≤wrap64 (n-1)
          · refine Ev.pos (by simpa using h2) ?_
            by_cases h3:w[i].f0=w[i].f1
            · exact Ev.pos h3 (Ev.now _)
            · refine Ev.neg h3 (Ev.bind0 (spec_in _ _ _) ?_)
              refine Ev.neg (fun h4=>?_) (Ev.now _)
              simp [okP,h1,h2,h3]at ht
              simp at h4
              omega
          · exact Ev.neg (by simpa using h2) (Ev.now _)
        · exact Ev.neg (by simpa using h1) (Ev.now _)) (Ev.step (fun k=>spec_NetOk.l0.eq_2 ..) (Ev.neg (by omega) (Ev.now _)))
      have e:netB n w=(w.all (okP (wrap64 (n-1)))&&true):=by
        simp only[netB,decide_eq_true hn,decide_eq_true (show(w.length:Int)≤120 by omega),Bool.and_true]
      rw[e]
      exact Ev.step (fun k=>spec_NetOk.j0.eq_2 ..) (Ev.neg (by simp) key)
  · have:netB n w=false:=by simp only[netB,decide_eq_false hn];simp
    rw[this]
    exact Ev.neg (by simpa using hn) j0
theorem net_facts{n:Int}{w:List P1}(h:netB n w=true):(2≤n∧n≤40)∧w.length≤120∧wrap64 (n-1)=n-1∧∀p∈w,(0≤p.f0∧p.f0≤n-1)∧(0≤p.f1∧p.f1≤n-1)∧p.f0≠p.f1∧(0≤p.f2∧p.f2≤1000):=by
  simp only[netB,Bool.and_eq_true,decide_eq_true_eq,List.all_eq_true]at h
  obtain⟨h1,h2,h3⟩:=h
  have e:wrap64 (n-1)=n-1:=w64 (by omega) (by omega)
  refine⟨h2,by omega,e,fun p hp=>?_⟩
  have:=h1 p hp
  rw[e]at this
  simp only[okP,Bool.and_eq_true,decide_eq_true_eq,Bool.not_eq_true',decide_eq_false_iff_not]at this
  exact⟨this.1,this.2.1,this.2.2.1,this.2.2.2⟩
end Go.Proofs.YtgalpgakdcfilaaGreat.L
