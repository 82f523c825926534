/- The side of the source: program and reference tell the same. No condition beyond sizes. -/
import Derived.Test.YtgalpgakdcfilaaGreatFlowF
import Derived.Test.YtgalpgakdcfilaaGreatL33
import Derived.Test.YtgalpgakdcfilaaGreatL57
namespace Go.Proofs.YtgalpgakdcfilaaGreat.L
set_option linter.unusedVariables false
set_option linter.unusedSimpArgs false
open Go.RowKit Go.Proofs.YtgalpgakdcfilaaGreatW.PrintWords Go.Proofs.YtgalpgakdcfilaaGreat.PK
theorem reachR_len{n:Nat}{w:List P1}(hw:Ends n w)(f:List Int):∀(m q:Nat) (s:BS),Bs n q s→(bfs w f m s).length=n
  |0,_,_,h=>h.1
  |m+1,q,s,h=>by
    simp only[bfs]
    by_cases c:s.2= []
    · rw[if_pos c];exact h.1
    · rw[if_neg c]
      have hp:0<s.2.length:=List.length_pos_iff.2 c
      have h2:=h.2
      have h':Bs n (q-1) (s.1,s.2.drop 1):=⟨h.1,by simp only[List.length_drop];omega⟩
      exact reachR_len hw f m (q-1) _ (Bs.inn hw h' f _ w.length (by omega))
theorem side_same(n:Int)(w:List P1)(a:Int)(f:List Int)(hw:w.length≤1048576)(hf:f.length≤1048576):
    ∃v:List Bool,v.length≤40∧(netB n w=true→0≤a∧a≤n-1→f.length=w.length→(v.length:Int)=n)∧Ev (fun k=>spec_SourceSide.f k n w a f) v∧Ev (fun k=>impl_SourceSide.f k n w a f) v:=by
  have j1:∀a n w,Ev (fun k=>impl_SourceSide.j0 k a f true n w) ([]:List Bool):=fun a n w=>Ev.step (fun k=>impl_SourceSide.j0.eq_2 ..) (Ev.pos rfl (Ev.now _))
  unfold spec_SourceSide.f impl_SourceSide.f
  by_cases c:netB n w=true
  · obtain⟨m,rfl,hm2,he,_⟩:=net_ends c
    have e1:=(net_facts c).2.2.1
    have hm:=he.1
    by_cases c1:0≤a∧a≤(m:Int)-1
    · obtain⟨a,rfl⟩:∃b:Nat,a=b:=⟨a.toNat,by omega⟩
      by_cases c2:(f.length:Int)=(w.length:Int)
      · have hlen:(reachR m w f a).length=m:=reachR_len he f m m _ (bs0_bs (by omega))
        refine⟨(reachR m w f a).map (·.f2),by simpa [hlen] using hm,fun _ _ _=>by simp [hlen],?_,?_⟩
        · refine Ev.bind (spec_net _ w (by omega)) (Ev.pos c (Ev.bind0 (spec_in _ _ _) (Ev.pos (by rw[e1];exact decide_eq_true c1) (Ev.pos c2 (Ev.bind (spec_reach_tells he f (by omega) a (by omega)) (Ev.now _))))))
        · refine Ev.bind (impl_net _ w (by omega)) (Ev.pos c (Ev.bind0 (impl_in _ _ _) (Ev.pos (by rw[e1];exact decide_eq_true c1) ?_)))
          rw[show((f.length:Int) != (w.length:Int))=false by simpa using c2]
          refine Ev.step (fun k=>impl_SourceSide.j0.eq_2 ..) (Ev.neg (by simp) (Ev.bind (impl_reach_tells he f (by omega) a (by omega)) ?_))
          generalize reachR m w f a=l at hlen
          have:=Ev.iter (fun i k=>impl_SourceSide.l0 k ((l.map (·.f2)).take i) l (l.length:Int) (i:Int)) l.length (l.map (·.f2)) (fun i hi h=>by
            refine Ev.step (fun k=>impl_SourceSide.l0.eq_2 ..) (Ev.pos (by omega) (Ev.pos (by omega) (Ev.pos (by omega) (Ev.pos (by simp;omega) ?_))))
            rw[w64s (by omega),rdh_nat hi]
            rw[take_snoc _ i (by simpa using hi),List.getElem_map]at h
            exact h) (by
            refine Ev.step (fun k=>impl_SourceSide.l0.eq_2 ..) (Ev.neg (by omega) ?_)
            rw[List.take_of_length_le (by simp)]
            exact Ev.now _)
          simpa using this
      · refine⟨[],by simp,fun _ _ h=>absurd (by omega) c2,Ev.bind (spec_net _ w (by omega)) (Ev.pos c (Ev.bind0 (spec_in _ _ _) (Ev.pos (by rw[e1];exact decide_eq_true c1) (Ev.neg c2 (Ev.now _))))),Ev.bind (impl_net _ w (by omega)) (Ev.pos c (Ev.bind0 (impl_in _ _ _) (Ev.pos (by rw[e1];exact decide_eq_true c1) ?_)))⟩
        rw[show((f.length:Int) != (w.length:Int))=true by simpa using c2]
        exact j1 _ _ _
    · exact⟨[],by simp,fun _ h _=>absurd h c1,Ev.bind (spec_net _ w (by omega)) (Ev.pos c (Ev.bind0 (spec_in _ _ _) (Ev.neg (by rw[e1,decide_eq_false c1];simp) (Ev.now _)))),Ev.bind (impl_net _ w (by omega)) (Ev.pos c (Ev.bind0 (impl_in _ _ _) (Ev.neg (by rw[e1,decide_eq_false c1];simp) (j1 _ _ _))))⟩
  · exact⟨[],by simp,fun h=>absurd h c,Ev.bind (spec_net _ w (by omega)) (Ev.neg c (Ev.now _)),Ev.bind (impl_net _ w (by omega)) (Ev.neg c (j1 _ _ _))⟩
end Go.Proofs.YtgalpgakdcfilaaGreat.L
