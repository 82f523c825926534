/- The net of the question whether a team can lead: program and reference build the same. -/
import Derived.Test.YtgalpgakdcfilaaGreatTabB
import Derived.Test.YtgalpgakdcfilaaGreatNetK
import Derived.Test.YtgalpgakdcfilaaGreatL27
import Derived.Test.YtgalpgakdcfilaaGreatL48
import Derived.Test.YtgalpgakdcfilaaGreatL50
namespace Go.Proofs.YtgalpgakdcfilaaGreat.L
set_option linter.unusedVariables false
set_option linter.unusedSimpArgs false
open Go.RowKit Go.Proofs.YtgalpgakdcfilaaGreatW.PrintWords Go.Proofs.YtgalpgakdcfilaaGreat.PK
def othB(x:Int)(g:G1):Bool:=(g.f4==0)&& !(decide (g.f0=x)||decide (g.f1=x))
def oth(gs:List G1)(x:Int)(i:Nat):List G1:=(gs.drop i).filter (othB x)
theorem oth_pos{gs:List G1}{x:Int}{i:Nat}(h:i<gs.length)(c:othB x gs[i]=true):oth gs x i=gs[i]::oth gs x (i+1):=by
  unfold oth;rw[List.drop_eq_getElem_cons h,List.filter_cons,if_pos c]
theorem oth_neg{gs:List G1}{x:Int}{i:Nat}(h:i<gs.length)(c:othB x gs[i]=false):oth gs x i=oth gs x (i+1):=by
  unfold oth;rw[List.drop_eq_getElem_cons h,List.filter_cons,if_neg (by rw[c];simp)]
theorem oth_end(gs:List G1)(x:Int):oth gs x gs.length= []:=by unfold oth;simp
theorem oth_len(gs:List G1)(x:Int)(i:Nat):(oth gs x i).length≤gs.length-i:=by
  unfold oth
  have:=List.length_filter_le (othB x) (gs.drop i)
  rw[List.length_drop]at this
  exact this
theorem oth_mem{gs:List G1}{x:Int}{i:Nat}{g:G1}(h:g∈oth gs x i):g∈gs:=by
  unfold oth at h
  exact List.mem_of_mem_drop (List.mem_filter.1 h).1
def trip(v:Int)(g:G1):List P1:=[⟨0,v,2⟩,⟨v,wrap64 (2+g.f0),2⟩,⟨v,wrap64 (2+g.f1),2⟩]
def trips(v:Nat):List G1→List P1
  | []=>[]
  |g::r=>trip (v:Int) g++trips (v+1) r
theorem trips_cons(v:Nat)(g:G1)(r:List G1):trips v (g::r)=trip (v:Int) g++trips (v+1) r:=rfl
theorem trips_len(v:Nat)(os:List G1):(trips v os).length=3*os.length:=by
  induction os generalizing v with
  |nil=>rfl
  |cons g r ih=>unfold trips;rw[List.length_append,ih,List.length_cons];show 3+_=_;omega
def goR(N best x:Int):List Int→Nat→List P1→Int×List P1×Int
  | [],_,ps=>(N,ps,-1)
  |p::r,t,ps=>if(t:Int)=x then goR N best x r (t+1) ps else if p>best then(0,[],(t:Int))else goR N best x r (t+1) (ps++[⟨wrap64 (2+(t:Int)),1,wrap64 (best-p)⟩])
theorem goR_len(N best x:Int)(P:List Int):∀(t:Nat) (ps:List P1),(goR N best x P t ps).2.1.length≤ps.length+P.length:=by
  induction P with
  |nil=>intro t ps;exact Nat.le_refl _
  |cons p r ih=>
    intro t ps
    unfold goR
    split
    · have:=ih (t+1) ps;rw[List.length_cons];omega
    · split
      · simp
      · have:=ih (t+1) (ps++[⟨wrap64 (2+(t:Int)),1,wrap64 (best-p)⟩]);rw[List.length_append,List.length_singleton]at this;rw[List.length_cons];omega
theorem l1_same(N best x:Int)(P:List Int)(hP:P.length≤1048576)(ps0:List P1)(hps:ps0.length≤1048576):
    Ev (fun k=>spec_l18Net.l1 k x best P (P.length:Int) 0 N ps0) (goR N best x P 0 ps0)∧Ev (fun k=>impl_leadNet.l1 k x best P (P.length:Int) 0 N ps0) (goR N best x P 0 ps0):=by
  have:=down (g:=fun i=>∀ps:List P1,ps.length≤1048576+i→Ev (fun k=>spec_l18Net.l1 k x best P (P.length:Int) (i:Int) N ps) (goR N best x (P.drop i) i ps)∧Ev (fun k=>impl_leadNet.l1 k x best P (P.length:Int) (i:Int) N ps) (goR N best x (P.drop i) i ps)) (n:=P.length) (fun i hi hs ps hl=>by
    have hw:wrap64 ((i:Int)+1)=((i+1:Nat):Int):=w64s (by omega)
    rw[List.drop_eq_getElem_cons hi]
    unfold goR
    by_cases c1:(i:Int)=x
    · rw[if_pos c1]
      obtain⟨h1,h2⟩:=hs ps (by omega)
      refine⟨Ev.step (fun k=>spec_l18Net.l1.eq_2 ..) (Ev.pos (by omega) (Ev.pos (by omega) (Ev.pos (by omega) (Ev.pos c1 ?_)))),Ev.step (fun k=>impl_leadNet.l1.eq_2 ..) (Ev.pos (by omega) (Ev.pos (by omega) (Ev.pos (by omega) (Ev.pos c1 ?_))))⟩
      · rw[hw];exact h1
      · rw[hw];exact h2
    · rw[if_neg c1]
      by_cases c2:P[i]>best
      · rw[if_pos c2]
        refine⟨Ev.step (fun k=>spec_l18Net.l1.eq_2 ..) (Ev.pos (by omega) (Ev.pos (by omega) (Ev.pos (by omega) (Ev.neg c1 (Ev.pos (by rw[rd_nat hi];exact c2) (Ev.now _)))))),Ev.step (fun k=>impl_leadNet.l1.eq_2 ..) (Ev.pos (by omega) (Ev.pos (by omega) (Ev.pos (by omega) (Ev.neg c1 (Ev.pos (by rw[rd_nat hi];exact c2) (Ev.now _))))))⟩
      · rw[if_neg c2]
        obtain⟨h1,h2⟩:=hs (ps++[⟨wrap64 (2+(i:Int)),1,wrap64 (best-P[i])⟩]) (by rw[List.length_append,List.length_singleton];omega)
        refine⟨Ev.step (fun k=>spec_l18Net.l1.eq_2 ..) (Ev.pos (by omega) (Ev.pos (by omega) (Ev.pos (by omega) (Ev.neg c1 ?_)))),Ev.step (fun k=>impl_leadNet.l1.eq_2 ..) (Ev.pos (by omega) (Ev.pos (by omega) (Ev.pos (by omega) (Ev.neg c1 ?_))))⟩
        · rw[rd_nat hi,hw];exact Ev.neg c2 (Ev.pos (by omega) h1)
        · rw[rd_nat hi,hw];exact Ev.neg c2 (Ev.pos (by omega) h2)) (fun ps hl=>by
    rw[List.drop_length]
    exact⟨Ev.step (fun k=>spec_l18Net.l1.eq_2 ..) (Ev.neg (by omega) (Ev.now _)),Ev.step (fun k=>impl_leadNet.l1.eq_2 ..) (Ev.neg (by omega) (Ev.now _))⟩) P.length 0 (by omega)
  exact this ps0 (by omega)
theorem spec_l0(best x:Int)(P:List Int)(hP:P.length≤1048576)(g:List G1)(hz:g.length≤60)(T:Nat)(hT:T≤8)(v:Int×List P1×Int)
    (hv:Ev (fun k=>spec_l18Net.l1 k x best P (P.length:Int) 0 ((2+T+(oth g x 0).length:Nat):Int) (trips (2+T) (oth g x 0))) v):Ev (fun k=>spec_l18Net.l0 k x P best g (g.length:Int) 0 (wrap64 (2+(T:Int))) []) v:=by
  have:=down (g:=fun i=>∀(m:Nat) (ps:List P1),m≤i→ps.length≤3*i→m+(oth g x i).length=(oth g x 0).length→ps++trips (2+T+m) (oth g x i)=trips (2+T) (oth g x 0)→Ev (fun k=>spec_l18Net.l0 k x P best g (g.length:Int) (i:Int) ((2+T+m:Nat):Int) ps) v) (n:=g.length) (fun i hi hs m ps hm hl he hp=>by
    have hw:wrap64 ((i:Int)+1)=((i+1:Nat):Int):=w64s (by omega)
    by_cases c0:(g[i].f4==0)=true
    · by_cases c1:g[i].f0=x
      · have ho:othB x g[i]=false:=by unfold othB;rw[decide_eq_true c1];simp
        rw[oth_neg hi ho]at he hp
        refine Ev.step (fun k=>spec_l18Net.l0.eq_2 ..) (Ev.pos (by omega) (Ev.pos (by omega) (Ev.pos (by omega) (Ev.bind0 (a:=true) ?_ (Ev.pos rfl (Ev.pos ?_ ?_))))))
        · rw[rdG1 hi];exact congrArg some c0
        · rw[rdG1 hi];exact c1
        · rw[hw];exact hs m ps (by omega) (by omega) he hp
      · by_cases c2:g[i].f1=x
        · have ho:othB x g[i]=false:=by unfold othB;rw[decide_eq_true c2];simp
          rw[oth_neg hi ho]at he hp
          refine Ev.step (fun k=>spec_l18Net.l0.eq_2 ..) (Ev.pos (by omega) (Ev.pos (by omega) (Ev.pos (by omega) (Ev.bind0 (a:=true) ?_ (Ev.pos rfl (Ev.neg ?_ (Ev.pos ?_ ?_)))))))
          · rw[rdG1 hi];exact congrArg some c0
          · rw[rdG1 hi];exact c1
          · rw[rdG1 hi];exact c2
          · rw[hw];exact hs m ps (by omega) (by omega) he hp
        · have ho:othB x g[i]=true:=by unfold othB;rw[decide_eq_false c1,decide_eq_false c2,c0];rfl
          rw[oth_pos hi ho]at he hp
          rw[List.length_cons]at he
          rw[trips_cons]at hp
          refine Ev.step (fun k=>spec_l18Net.l0.eq_2 ..) (Ev.pos (by omega) (Ev.pos (by omega) (Ev.pos (by omega) (Ev.bind0 (a:=true) ?_ (Ev.pos rfl (Ev.neg ?_ (Ev.neg ?_ (Ev.bind0 rfl ?_))))))))
          · rw[rdG1 hi];exact congrArg some c0
          · rw[rdG1 hi];exact c1
          · rw[rdG1 hi];exact c2
          · rw[rdG1 hi,hw,w64s (i:=2+T+m) (by omega)]
            refine Ev.pos (by show _+3<_;omega) ?_
            refine hs (m+1) (ps++trip ((2+T+m:Nat):Int) g[i]) (by omega) (by rw[List.length_append];show _+3≤_;omega) (by omega) ?_
            rw[List.append_assoc];exact hp
    · have ho:othB x g[i]=false:=by unfold othB;rw[Bool.eq_false_iff.2 c0];rfl
      rw[oth_neg hi ho]at he hp
      refine Ev.step (fun k=>spec_l18Net.l0.eq_2 ..) (Ev.pos (by omega) (Ev.pos (by omega) (Ev.pos (by omega) (Ev.bind0 (a:=false) ?_ (Ev.neg (by simp) ?_)))))
      · rw[rdG1 hi];exact congrArg some (Bool.eq_false_iff.2 c0)
      · rw[hw];exact hs m ps (by omega) (by omega) he hp) (fun m ps hm hl he hp=>by
    rw[oth_end]at he hp
    have e:m=(oth g x 0).length:=by simpa using he
    have e2:ps=trips (2+T) (oth g x 0):=by rw[←hp];simp [trips]
    subst e
    subst e2
    exact Ev.step (fun k=>spec_l18Net.l0.eq_2 ..) (Ev.neg (by omega) hv)) g.length 0 (by omega)
  have h:=this 0 [] (by omega) (by simp) (by omega) (by rfl)
  rw[w64 (by omega) (by omega)]
  exact h
theorem impl_oth(t:List T1)(a b c:Int)(o:List Int)(d:Bool)(g:List G1)(f q:List Int)(x:Int)(hz:g.length≤1048576):Ev (fun k=>impl_others.f k t a b c o d g f q x) (oth g x 0):=by
  have hv:=opens_len g
  have:=down (g:=fun i=>∀(acc:List G1) (j:Nat),acc.length≤i→(opens g 0).drop j=opens g i→Ev (fun k=>impl_others.l0 k x acc (opens g 0) ((opens g 0).length:Int) (j:Int) t a b c o d g f q) (acc++oth g x i)) (n:=g.length) (fun i hi hs acc j ha hj=>by
    by_cases c0:(g[i].f4==0)=true
    · rw[opens_pos hi c0]at hj
      obtain⟨j0,j1,j2⟩:=drop_cons hj
      have hw':wrap64 ((j:Int)+1)=((j+1:Nat):Int):=w64s (by omega)
      have hrd:rd (opens g 0) (j:Int)=(i:Int):=by rw[rd_nat j0,j1]
      refine Ev.step (fun k=>impl_others.l0.eq_2 ..) (Ev.pos (by omega) (Ev.pos (by omega) (Ev.pos (by omega) ?_)))
      rw[hrd,rdG1 hi,hw']
      refine Ev.pos (by omega) (Ev.pos (by omega) ?_)
      by_cases c1:g[i].f0=x
      · have ho:othB x g[i]=false:=by unfold othB;rw[decide_eq_true c1];simp
        rw[oth_neg hi ho]
        exact Ev.bind0 (a:=true) (by unfold impl_plays.f;rw[if_pos c1]) (Ev.pos rfl (hs acc (j+1) (by omega) j2))
      · by_cases c2:g[i].f1=x
        · have ho:othB x g[i]=false:=by unfold othB;rw[decide_eq_true c2];simp
          rw[oth_neg hi ho]
          exact Ev.bind0 (a:=true) (by unfold impl_plays.f;rw[if_neg c1,beq_iff_eq.mpr c2]) (Ev.pos rfl (hs acc (j+1) (by omega) j2))
        · have ho:othB x g[i]=true:=by unfold othB;rw[decide_eq_false c1,decide_eq_false c2,c0];rfl
          rw[oth_pos hi ho]
          have h2:=hs (acc++[g[i]]) (j+1) (by rw[List.length_append,List.length_singleton];omega) j2
          rw[List.append_assoc,List.singleton_append]at h2
          exact Ev.bind0 (a:=false) (by unfold impl_plays.f;rw[if_neg c1,beq_eq_false_iff_ne.mpr c2]) (Ev.neg (by simp) (Ev.pos (by omega) h2))
    · have ho:othB x g[i]=false:=by unfold othB;rw[Bool.eq_false_iff.2 c0];rfl
      rw[opens_neg hi c0]at hj
      rw[oth_neg hi ho]
      exact hs acc j (by omega) hj) (fun acc j ha hj=>by
    rw[opens_end]at hj
    have hj':(opens g 0).length≤j:=List.drop_eq_nil_iff.1 hj
    rw[oth_end,List.append_nil]
    exact Ev.step (fun k=>impl_others.l0.eq_2 ..) (Ev.neg (by omega) (Ev.now _))) g.length 0 (by omega)
  have h:=this [] 0 (by simp) rfl
  rw[List.nil_append]at h
  exact Ev.bind (impl_opens g hz) h
theorem impl_l0(t:List T1)(a b c:Int)(o:List Int)(d:Bool)(g:List G1)(f q:List Int)(best x:Int)(P:List Int)(hb:Ev (fun k=>impl_best.f k t a b c o d g f q x) best)(hp:Ev (fun k=>impl_points.f k t a b c o d g f q) P)(T:Nat)(hT:T≤8)(N:Int)(os:List G1)(ho:os.length≤60)(v:Int×List P1×Int)
    (hv:Ev (fun k=>impl_leadNet.l1 k x best P (P.length:Int) 0 N (trips (2+T) os)) v):Ev (fun k=>impl_leadNet.l0 k x (T:Int) os (os.length:Int) 0 t a b c o d g f q N []) v:=by
  have:=down (g:=fun i=>∀ps:List P1,ps.length=3*i→ps++trips (2+T+i) (os.drop i)=trips (2+T) os→Ev (fun k=>impl_leadNet.l0 k x (T:Int) os (os.length:Int) (i:Int) t a b c o d g f q N ps) v) (n:=os.length) (fun i hi hs ps hl he=>by
    have hw:wrap64 ((i:Int)+1)=((i+1:Nat):Int):=w64s (by omega)
    rw[List.drop_eq_getElem_cons hi]at he
    rw[trips_cons]at he
    have hn:wrap64 (wrap64 (2+(T:Int))+(i:Int))=((2+T+i:Nat):Int):=by rw[w64 (n:=2+(T:Int)) (by omega) (by omega),w64 (by omega) (by omega)];omega
    refine Ev.step (fun k=>impl_leadNet.l0.eq_2 ..) (Ev.pos (by omega) (Ev.pos (by omega) (Ev.pos (by omega) (Ev.bind0 rfl ?_))))
    rw[rdG1 hi,hw,hn]
    refine Ev.pos (by show _+3<_;omega) ?_
    refine hs (ps++trip ((2+T+i:Nat):Int) os[i]) (by rw[List.length_append];show _+3=_;omega) ?_
    rw[List.append_assoc];exact he) (fun ps hl he=>by
    have e2:ps=trips (2+T) os:=by rw[←he];simp [trips]
    subst e2
    exact Ev.step (fun k=>impl_leadNet.l0.eq_2 ..) (Ev.neg (by omega) (Ev.bind hb (Ev.bind hp hv)))) os.length 0 (by omega)
  exact this [] (by simp) (by rfl)
theorem net_same(t:List T1)(a b c:Int)(o:List Int)(d:Bool)(g:List G1)(f q:List Int)(x:Int)(hn:t.length≤8)(hq:q.length=t.length)(hz:g.length≤60)(hg:∀i (h:i<g.length),gOk t.length g[i])(x0:0≤x)(x1:x<(t.length:Int)):
    ∃(P:List Int) (best:Int),P.length=t.length∧Ev (fun k=>spec_l18Net.f k t a b c o d g f q x) (goR ((2+t.length+(oth g x 0).length:Nat):Int) best x P 0 (trips (2+t.length) (oth g x 0)))∧Ev (fun k=>impl_leadNet.f k t a b c o d g f q x) (goR ((2+t.length+(oth g x 0).length:Nat):Int) best x P 0 (trips (2+t.length) (oth g x 0))):=by
  obtain⟨P,p0,p1,p2⟩:=pts_same t a b c o d g f q hn hq (by omega) hg
  obtain⟨r,r1,r2⟩:=best_same t a b c o d g f q x hn hq (by omega) hg x0 x1
  have hol:=oth_len g x 0
  have hl:=l1_same ((2+t.length+(oth g x 0).length:Nat):Int) r x P (by omega) (trips (2+t.length) (oth g x 0)) (by rw[trips_len];omega)
  refine⟨P,r,p0,Ev.bind p1 (Ev.bind r1 (spec_l0 r x P (by omega) g hz t.length hn _ hl.1)),?_⟩
  refine Ev.bind (impl_oth t a b c o d g f q x (by omega)) ?_
  have hN:wrap64 (wrap64 (2+(t.length:Int))+((oth g x 0).length:Int))=((2+t.length+(oth g x 0).length:Nat):Int):=by rw[w64 (n:=2+(t.length:Int)) (by omega) (by omega),w64 (by omega) (by omega)];omega
  rw[hN]
  exact impl_l0 t a b c o d g f q r x P r2 p2 t.length hn _ (oth g x 0) (by omega) _ hl.2
end Go.Proofs.YtgalpgakdcfilaaGreat.L
