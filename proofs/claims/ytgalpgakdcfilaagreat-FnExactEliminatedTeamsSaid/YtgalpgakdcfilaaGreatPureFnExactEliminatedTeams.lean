/- The pure part of the law FnExactEliminatedTeams: what program and reference compute is the same. Conditions: those of the row. -/
import Derived.Test.YtgalpgakdcfilaaGreatVerA
import Derived.Test.YtgalpgakdcfilaaGreatLawInt
import Derived.Test.YtgalpgakdcfilaaGreatLawMark
import Derived.Test.YtgalpgakdcfilaaGreatLawBkMark
import Derived.Test.YtgalpgakdcfilaaGreatL35
import Derived.Test.YtgalpgakdcfilaaGreatL63
namespace Go.Proofs.YtgalpgakdcfilaaGreat.L
set_option linter.unusedVariables false
set_option linter.unusedSimpArgs false
open Go.RowKit Go.Proofs.YtgalpgakdcfilaaGreatW.PrintWords Go.Proofs.YtgalpgakdcfilaaGreat.PK
theorem el_same(t:List T1)(a b c:Int)(o:List Int)(d:Bool)(g:List G1)(f q:List Int)(z1:t.length≤1048576)(zs:∀y∈t,y.f0.size≤1048576)(z2:o.length≤1048576)(z3:g.length≤1048576)(z4:f.length≤1048576)(z5:q.length≤1048576):
    ∃v:List Int,v.length≤1048576∧Ev (fun k=>spec_EliminatedTeams.f k t a b c o d g f q) v∧Ev (fun k=>impl_EliminatedTeams.f k t a b c o d g f q) v:=by
  have:=down (g:=fun i=>∀acc:List Int,acc.length≤i→∃v:List Int,v.length≤1048576∧Ev (fun k=>spec_EliminatedTeams.l0 k acc (t.length:Int) (i:Int) t a b c o d g f q) v∧Ev (fun k=>impl_EliminatedTeams.l0 k acc (t.length:Int) (i:Int) t a b c o d g f q) v) (n:=t.length) (fun i hi hs acc ha=>by
    have hw:wrap64 ((i:Int)+1)=((i+1:Nat):Int):=w64s (by omega)
    obtain⟨v,_,_,h1,h2⟩:=lv_same t a b c o d g f q (i:Int) z1 zs z2 z3 z4 z5
    by_cases c1:v.2.2.2=true
    · by_cases c2:v.1=true
      · obtain⟨r,r0,r1,r2⟩:=hs acc (by omega)
        rw[←hw]at r1 r2
        exact⟨r,r0,Ev.step (fun k=>spec_EliminatedTeams.l0.eq_2 ..) (Ev.pos (by omega) (Ev.bind h1 (Ev.pos c1 (Ev.pos c2 r1)))),Ev.step (fun k=>impl_EliminatedTeams.l0.eq_2 ..) (Ev.pos (by omega) (Ev.bind h2 (Ev.pos c1 (Ev.pos c2 r2))))⟩
      · obtain⟨r,r0,r1,r2⟩:=hs (acc++[(i:Int)]) (by rw[List.length_append,List.length_singleton];omega)
        rw[←hw]at r1 r2
        exact⟨r,r0,Ev.step (fun k=>spec_EliminatedTeams.l0.eq_2 ..) (Ev.pos (by omega) (Ev.bind h1 (Ev.pos c1 (Ev.neg c2 (Ev.pos (by omega) r1))))),Ev.step (fun k=>impl_EliminatedTeams.l0.eq_2 ..) (Ev.pos (by omega) (Ev.bind h2 (Ev.pos c1 (Ev.neg c2 (Ev.pos (by omega) r2)))))⟩
    · obtain⟨r,r0,r1,r2⟩:=hs acc (by omega)
      rw[←hw]at r1 r2
      exact⟨r,r0,Ev.step (fun k=>spec_EliminatedTeams.l0.eq_2 ..) (Ev.pos (by omega) (Ev.bind h1 (Ev.neg c1 r1))),Ev.step (fun k=>impl_EliminatedTeams.l0.eq_2 ..) (Ev.pos (by omega) (Ev.bind h2 (Ev.neg c1 r2)))⟩) (fun acc ha=>⟨acc,by omega,Ev.step (fun k=>spec_EliminatedTeams.l0.eq_2 ..) (Ev.neg (by omega) (Ev.now _)),Ev.step (fun k=>impl_EliminatedTeams.l0.eq_2 ..) (Ev.neg (by omega) (Ev.now _))⟩) t.length 0 (by omega)
  exact this [] (by simp)
theorem FnExactEliminatedTeams.pure:∀(l0_0:List (S82)) (a0_1:Int) (a0_2:Int) (a0_3:Int) (l0_4:List Int) (a0_5:Bool) (l0_6:List (S86)) (l0_7:List Int) (l0_8:List Int),(l0_0.length≤maxLen∧∀y∈l0_0,(y.f0.size≤maxLen∧(Lit.int .i64 y.f1).wf=true∧(Lit.int .i64 y.f2).wf=true))→(Lit.int .i64 a0_1).wf=true→(Lit.int .i64 a0_2).wf=true→(Lit.int .i64 a0_3).wf=true→(l0_4.length≤maxLen∧∀y∈l0_4,(Lit.int .i64 y).wf=true)→(l0_6.length≤maxLen∧∀y∈l0_6,((Lit.int .i64 y.f0).wf=true∧(Lit.int .i64 y.f1).wf=true∧(Lit.int .i64 y.f2).wf=true∧(Lit.int .i64 y.f3).wf=true∧(Lit.int .i64 y.f4).wf=true))→(l0_7.length≤maxLen∧∀y∈l0_7,(Lit.int .i64 y).wf=true)→(l0_8.length≤maxLen∧∀y∈l0_8,(Lit.int .i64 y).wf=true)→∃k,laws_FnExactEliminatedTeams.f k l0_0 a0_1 a0_2 a0_3 l0_4 a0_5 l0_6 l0_7 l0_8=some true:=by
  intro t a b c o d g f q ht _ _ _ ho hg hf hq
  refine Ev.rounds (g:=fun k=>laws_FnExactEliminatedTeams.f k t a b c o d g f q) ?_
  obtain⟨r,hr,hc⟩:=szBook_tells t a b c o d g f q 1048576 (by omega) (by omega) ht.1 (fun y hy=>(ht.2 y hy).1) ho.1 hg.1 hf.1 hq.1
  by_cases c0:r<0
  · exact Ev.bind hr (Ev.pos c0 (Ev.now _))
  obtain⟨r0,r1,hs⟩:=hc.resolve_left c0
  have h1:=toBook_same t a b c o d g f q hs
  obtain⟨z1,z2,z3,z4,z5,z6⟩:=hs
  have l1:(t.map tv).length≤1048576:=by rw[List.length_map];omega
  have l2:(g.map gv).length≤1048576:=by rw[List.length_map];omega
  have ls:∀y∈t.map tv,y.f0.size≤1048576:=by
    intro y hy
    obtain⟨z,hz,rfl⟩:=List.mem_map.1 hy
    have:=z2 z hz
    show z.f0.size≤1048576
    omega
  obtain⟨v,hv,h3,h4⟩:=el_same (t.map tv) a b c o d (g.map gv) f q l1 ls (by omega) l2 (by omega) (by omega)
  have h5:=eqBook_self (t.map tv) a b c o d (g.map gv) f q l1 (by omega) l2 (by omega) (by omega)
  obtain⟨m,h6,hm,_⟩:=markBook_some (t.map tv) a b c o d (g.map gv) f q 1 (by omega) (by omega) l1 (by omega) l2 (by omega) (by omega)
  have h7:=eqIntS_self v (by omega)
  have h8:=markIntS_marks v 1 (by omega) (by omega)
  have h9:=heldIntS_marks 1 v.length (by omega) (by omega)
  unfold laws_FnExactEliminatedTeams.f
  repeat (first
    |exact Ev.now _
    |(with_reducible refine Ev.bind hr ?_)
    |(with_reducible refine Ev.bind h1 ?_)
    |(with_reducible refine Ev.bind h3 ?_)
    |(with_reducible refine Ev.bind h4 ?_)
    |(with_reducible refine Ev.bind h5 ?_)
    |(with_reducible refine Ev.bind h6 ?_)
    |(with_reducible refine Ev.bind h7 ?_)
    |(with_reducible refine Ev.bind h8 ?_)
    |(with_reducible refine Ev.bind h9 ?_)
    |refine Ev.neg (by first|assumption|omega|exact bnot_ne_self) ?_
    |refine Ev.pos (by first|assumption|rfl|omega) ?_)
end Go.Proofs.YtgalpgakdcfilaaGreat.L
