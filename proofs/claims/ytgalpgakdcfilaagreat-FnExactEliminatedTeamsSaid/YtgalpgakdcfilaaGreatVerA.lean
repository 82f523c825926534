/- Whether a team can lead: the flow that fills all pipes of the source, the results out of it, the rivals. No condition beyond sizes. -/
import Derived.Test.YtgalpgakdcfilaaGreatNetL
import Derived.Test.YtgalpgakdcfilaaGreatFlowV
import Derived.Test.YtgalpgakdcfilaaGreatSideA
import Derived.Test.YtgalpgakdcfilaaGreatL33
import Derived.Test.YtgalpgakdcfilaaGreatL35
import Derived.Test.YtgalpgakdcfilaaGreatL59
namespace Go.Proofs.YtgalpgakdcfilaaGreat.L
set_option linter.unusedVariables false
set_option linter.unusedSimpArgs false
open Go.RowKit Go.Proofs.YtgalpgakdcfilaaGreatW.PrintWords Go.Proofs.YtgalpgakdcfilaaGreat.PK Go.Proofs.YtgalpgakdcfilaaGreatW.PrintMore
theorem gf_flow(n:Int)(w:List P1)(a b:Int)(hw:w.length≤1099511627776):
    ∃v:List Int×Bool,v.1.length≤120∧(v.2=true→endsB n w a b=true∧Good w v.1)∧Ev (fun k=>spec_GreatestFlow.f k n w a b) v∧Ev (fun k=>impl_GreatestFlow.f k n w a b) v:=by
  by_cases c:endsB n w a b=true
  · obtain⟨v,hG,h⟩:=great_is c
    refine⟨v,great_small hG,fun _=>⟨c,?_⟩,?_,impl_great c hG h⟩
    · obtain⟨m,s,t,_,_,_,_,_,_,_,_,_,hF,_⟩:=hG
      exact hF.1
    obtain⟨m,s,t,rfl,rfl,rfl,h1,h2,h3,he,_⟩:=hG
    refine Ev.bind (spec_ends _ w _ _ hw) (Ev.pos c (Ev.pos (by omega) (Ev.pos (by omega) ?_)))
    rw[Int.toNat_natCast]
    exact h m s t rfl rfl rfl _ (spec_stops he h1 h2) (spec_steps he h1 h2)
  · exact⟨([],false),by simp,fun h=>by simp at h,Ev.bind (spec_ends _ w _ _ hw) (Ev.neg c (Ev.now _)),Ev.bind (impl_ends _ w _ _ hw) (Ev.neg c (Ev.now _))⟩
def srcS:List (P1×Int)→Int
  | []=>0
  |z::r=>(if z.1.f0=0 then z.2 else 0)+srcS r
def srcC:List P1→Nat
  | []=>0
  |p::r=>(if p.f0=0 then 1 else 0)+srcC r
def fullB:List (P1×Int)→Bool
  | []=>true
  |z::r=>(if z.1.f0=0 then z.2==z.1.f2 else true)&&fullB r
theorem srcC_app(a b:List P1):srcC (a++b)=srcC a+srcC b:=by
  induction a with
  |nil=>simp [srcC]
  |cons p r ih=>simp only[List.cons_append,srcC,ih];omega
theorem srcC_zero{l:List P1}(h:∀p∈l,p.f0≠0):srcC l=0:=by
  induction l with
  |nil=>rfl
  |cons p r ih=>
    simp only[srcC]
    rw[if_neg (h p (by simp)),ih (fun q hq=>h q (by simp [hq]))]
def PipeOk(z:P1×Int):Prop:=z.1.f1≠0∧z.1.f0≠z.1.f1∧0≤z.2∧z.2≤z.1.f2∧z.1.f2≤1000∧(z.1.f0=0→z.1.f2=2)
theorem src_all(l:List (P1×Int))(h:∀z∈l,PipeOk z):0≤srcS l∧srcS l≤2*(srcC (l.map (·.1)):Int)∧(srcS l=2*(srcC (l.map (·.1)):Int)↔fullB l=true):=by
  induction l with
  |nil=>simp [srcS,srcC,fullB]
  |cons z r ih=>
    obtain⟨i1,i2,i3⟩:=ih (fun q hq=>h q (by simp [hq]))
    obtain⟨h1,h2,h3,h4,h5,h6⟩:=h z (by simp)
    simp only[List.map_cons,srcS,srcC,fullB]
    by_cases c:z.1.f0=0
    · have e:=h6 c
      rw[if_pos c,if_pos c,if_pos c]
      refine⟨by omega,by omega,?_⟩
      rw[Bool.and_eq_true,beq_iff_eq,←i3]
      constructor
      · intro h;exact⟨by omega,by omega⟩
      · rintro⟨k1,k2⟩;omega
    · rw[if_neg c,if_neg c,if_neg c]
      refine⟨by omega,by omega,?_⟩
      rw[Bool.true_and,←i3]
      omega
theorem src_fold(l:List (P1×Int))(h:∀z∈l,PipeOk z):∀s:Int,0≤s→s+2*(l.length:Int)≤1000000→l.foldl (fv1 0) s=s+srcS l:=by
  induction l with
  |nil=>intro s _ _;simp [srcS]
  |cons z r ih=>
    intro s h0 hs
    obtain⟨h1,h2,h3,h4,h5,h6⟩:=h z (by simp)
    rw[List.length_cons]at hs
    have e:fv1 0 s z=s+(if z.1.f0=0 then z.2 else 0):=by
      obtain⟨p,x⟩:=z
      rw[fv1_plain 0 s x p h2 (by omega) (by simp only at h3 h4 h5;omega),if_neg h1]
      show s+(if p.f0=0 then x else 0)-0=s+(if p.f0=0 then x else 0)
      exact Int.sub_zero _
    simp only[List.foldl_cons,srcS]
    rw[e]
    by_cases c:z.1.f0=0
    · have e2:=h6 c
      rw[if_pos c,ih (fun q hq=>h q (by simp [hq])) _ (by omega) (by omega)]
      omega
    · rw[if_neg c,ih (fun q hq=>h q (by simp [hq])) _ (by omega) (by omega)]
      omega
theorem goR_adds(N best x:Int)(P:List Int):∀(t:Nat) (ps:List P1),t+P.length≤1000→(goR N best x P t ps).2.2= -1→(goR N best x P t ps).1=N∧∃rest,(goR N best x P t ps).2.1=ps++rest∧∀p∈rest,p.f0≠0∧p.f1≠0:=by
  induction P with
  |nil=>intro t ps _ _;exact⟨rfl,[],by simp [goR],by simp⟩
  |cons p r ih=>
    intro t ps hl h
    rw[List.length_cons]at hl
    unfold goR at h⊢
    by_cases c1:(t:Int)=x
    · rw[if_pos c1]at h⊢
      exact ih (t+1) ps (by omega) h
    · rw[if_neg c1]at h⊢
      by_cases c2:p>best
      · rw[if_pos c2]at h
        exact absurd h (by show ¬(t:Int)= -1;omega)
      · rw[if_neg c2]at h⊢
        obtain⟨h1,rest,h2,h3⟩:=ih (t+1) _ (by omega) h
        refine⟨h1,⟨wrap64 (2+(t:Int)),1,wrap64 (best-p)⟩::rest,by rw[h2];simp,fun q hq=>?_⟩
        rcases List.mem_cons.1 hq with rfl|hq
        · rw[w64 (n:=2+(t:Int)) (by omega) (by omega)]
          exact⟨by show(2+(t:Int))≠0;omega,by show(1:Int)≠0;decide⟩
        · exact h3 q hq
theorem goR_over(N best x:Int)(P:List Int):∀(t:Nat) (ps:List P1),(goR N best x P t ps).2.2= -1∨0≤(goR N best x P t ps).2.2:=by
  induction P with
  |nil=>intro t ps;exact .inl rfl
  |cons p r ih=>
    intro t ps
    unfold goR
    by_cases c1:(t:Int)=x
    · rw[if_pos c1];exact ih _ _
    · rw[if_neg c1]
      by_cases c2:p>best
      · rw[if_pos c2];right;show 0≤(t:Int);omega
      · rw[if_neg c2];exact ih _ _
theorem trips_src(os:List G1):∀v:Nat,1≤v→srcC (trips v os)=os.length∧∀p∈trips v os,p.f1≠0→p.f0=0→p.f2=2:=by
  induction os with
  |nil=>intro v _;exact⟨rfl,by simp [trips]⟩
  |cons g r ih=>
    intro v hv
    obtain⟨i1,i2⟩:=ih (v+1) (by omega)
    rw[trips_cons]
    refine⟨?_,fun p hp _ h0=>?_⟩
    · rw[srcC_app,i1]
      simp only[trip,srcC,List.length_cons]
      rw[if_pos trivial,if_neg (by omega)]
      omega
    · rcases List.mem_append.1 hp with hp|hp
      · simp only[trip,List.mem_cons,List.not_mem_nil,or_false]at hp
        rcases hp with rfl|rfl|rfl
        · rfl
        · exact absurd h0 (by show ¬(v:Int)=0;omega)
        · exact absurd h0 (by show ¬(v:Int)=0;omega)
      · by_cases c1:p.f1=0
        · exact absurd c1 (by assumption)
        · exact i2 p hp c1 h0
theorem trips_at(os:List G1):∀(v i:Nat) (h:i<os.length),rd_T71 (trips v os) ((3*i+1:Nat):Int)=⟨((v+i:Nat):Int),wrap64 (2+os[i].f0),2⟩:=by
  induction os with
  |nil=>intro v i h;simp at h
  |cons g r ih=>
    intro v i h
    rw[trips_cons]
    cases i with
    |zero=>simp [rd_T71,trip]
    |succ i=>
      have:=ih (v+1) i (by rw[List.length_cons]at h;omega)
      rw[show((v+1+i:Nat):Int)=((v+(i+1):Nat):Int) by omega]at this
      rw[List.getElem_cons_succ,←this]
      simp only[rd_T71,Int.toNat_natCast]
      rw[show 3*(i+1)+1=(3*i+1)+3 by omega,List.getD_eq_getElem?_getD,List.getD_eq_getElem?_getD,List.getElem?_append_right (by show 3≤_;omega)]
      rfl
theorem trips_f1(os:List G1):∀(v:Nat),1≤v→(∀g∈os,0≤g.f0∧g.f0≤1000∧0≤g.f1∧g.f1≤1000)→∀p∈trips v os,p.f1≠0:=by
  induction os with
  |nil=>intro v _ _;simp [trips]
  |cons g r ih=>
    intro v hv h p hp
    obtain⟨g1,g2,g3,g4⟩:=h g (by simp)
    rw[trips_cons]at hp
    rcases List.mem_append.1 hp with hp|hp
    · simp only[trip,List.mem_cons,List.not_mem_nil,or_false]at hp
      rcases hp with rfl|rfl|rfl
      · show(v:Int)≠0;omega
      · show wrap64 (2+g.f0)≠0;rw[w64 (by omega) (by omega)];omega
      · show wrap64 (2+g.f1)≠0;rw[w64 (by omega) (by omega)];omega
    · exact ih (v+1) (by omega) (fun q hq=>h q (by simp [hq])) p hp
theorem w3at(m:Nat)(h:m≤1000):wrap64 (((3*m:Nat):Int)+1)=((3*m+1:Nat):Int):=w64s (by omega)
theorem w3on(m:Nat)(h:m≤1000):wrap64 (((3*m:Nat):Int)+3)=((3*(m+1):Nat):Int):=by rw[w64 (by omega) (by omega)];omega
theorem w3am(m:Nat)(h:m≤1000):wrap64 (wrap64 (3*(m:Int))+1)=((3*m+1:Nat):Int):=by rw[w64 (n:=3*(m:Int)) (by omega) (by omega),w64 (by omega) (by omega)];omega
theorem w3min(y:Int)(h0:0≤y)(h2:y≤2):wrap64 (3-y)=3-y:=w64 (by omega) (by omega)
set_option maxHeartbeats 4000000 in
theorem res_same(t:List T1)(a b c:Int)(o:List Int)(d:Bool)(g:List G1)(f q:List Int)(x:Int)(fl:List Int)(hz:g.length≤60)(hfl:fl.length≤120)(hL:3*(oth g x 0).length≤fl.length)(hv:∀i,i<(oth g x 0).length→0≤rd fl ((3*i+1:Nat):Int)∧rd fl ((3*i+1:Nat):Int)≤2):
    ∃r:List Int,r.length≤60∧Ev (fun k=>spec_l18Results.f k t a b c o d g f q x fl) r∧Ev (fun k=>impl_LeadVerdict.l0 k x fl 0 (opens g 0) ((opens g 0).length:Int) 0 t a b c o d g f q true []) (true,r,[],true):=by
  have ho:=opens_len g
  have:=down (g:=fun i=>∀(acc:List Int) (m j:Nat),acc.length≤i→m+(oth g x i).length=(oth g x 0).length→(opens g 0).drop j=opens g i→∃r:List Int,r.length≤60∧Ev (fun k=>spec_l18Results.l0 k x fl acc ((3*m:Nat):Int) g (g.length:Int) (i:Int)) r∧Ev (fun k=>impl_LeadVerdict.l0 k x fl (m:Int) (opens g 0) ((opens g 0).length:Int) (j:Int) t a b c o d g f q true acc) (true,r,[],true)) (n:=g.length) (fun i hi hs acc m j ha hm hj=>by
    by_cases c0:(g[i].f4==0)=true
    · rw[opens_pos hi c0]at hj
      obtain⟨j0,j1,j2⟩:=drop_cons hj
      have hj60:j<9223372036854775807:=by omega
      have hrd:rd (opens g 0) (j:Int)=(i:Int):=by rw[rd_nat j0,j1]
      by_cases c1:g[i].f0=x
      · have hn:othB x g[i]=false:=by unfold othB;rw[decide_eq_true c1];simp
        rw[oth_neg hi hn]at hm
        obtain⟨r,r0,r1,r2⟩:=hs (acc++[1]) m (j+1) (by rw[List.length_append,List.length_singleton];omega) hm j2
        refine⟨r,r0,?_,?_⟩
        · refine Ev.step (fun k=>spec_l18Results.l0.eq_2 ..) (Ev.pos (by omega) (Ev.pos (by omega) (Ev.pos (by omega) (Ev.bind0 (a:=true) ?_ (Ev.pos rfl (Ev.pos ?_ (Ev.pos (by omega) ?_)))))))
          · rw[rdG1 hi];exact congrArg some c0
          · rw[rdG1 hi];exact c1
          · rw[w64s (i:=i) (by omega)];exact r1
        · refine Ev.step (fun k=>impl_LeadVerdict.l0.eq_2 ..) (Ev.pos (by omega) (Ev.pos (by omega) (Ev.pos (by omega) ?_)))
          rw[hrd,rdG1 hi,w64s hj60]
          exact Ev.pos (by omega) (Ev.pos (by omega) (Ev.pos c1 (Ev.pos (by omega) r2)))
      · by_cases c2:g[i].f1=x
        · have hn:othB x g[i]=false:=by unfold othB;rw[decide_eq_true c2];simp
          rw[oth_neg hi hn]at hm
          obtain⟨r,r0,r1,r2⟩:=hs (acc++[3]) m (j+1) (by rw[List.length_append,List.length_singleton];omega) hm j2
          refine⟨r,r0,?_,?_⟩
          · refine Ev.step (fun k=>spec_l18Results.l0.eq_2 ..) (Ev.pos (by omega) (Ev.pos (by omega) (Ev.pos (by omega) (Ev.bind0 (a:=true) ?_ (Ev.pos rfl (Ev.neg ?_ (Ev.pos ?_ (Ev.pos (by omega) ?_))))))))
            · rw[rdG1 hi];exact congrArg some c0
            · rw[rdG1 hi];exact c1
            · rw[rdG1 hi];exact c2
            · rw[w64s (i:=i) (by omega)];exact r1
          · refine Ev.step (fun k=>impl_LeadVerdict.l0.eq_2 ..) (Ev.pos (by omega) (Ev.pos (by omega) (Ev.pos (by omega) ?_)))
            rw[hrd,rdG1 hi,w64s hj60]
            exact Ev.pos (by omega) (Ev.pos (by omega) (Ev.neg c1 (Ev.pos c2 (Ev.pos (by omega) r2))))
        · have hn:othB x g[i]=true:=by unfold othB;rw[decide_eq_false c1,decide_eq_false c2,c0];rfl
          rw[oth_pos hi hn,List.length_cons]at hm
          obtain⟨v0,v2⟩:=hv m (by omega)
          obtain⟨r,r0,r1,r2⟩:=hs (acc++[3-rd fl ((3*m+1:Nat):Int)]) (m+1) (j+1) (by rw[List.length_append,List.length_singleton];omega) (by omega) j2
          refine⟨r,r0,?_,?_⟩
          · refine Ev.step (fun k=>spec_l18Results.l0.eq_2 ..) (Ev.pos (by omega) (Ev.pos (by omega) (Ev.pos (by omega) (Ev.bind0 (a:=true) ?_ (Ev.pos rfl (Ev.neg ?_ (Ev.neg ?_ ?_)))))))
            · rw[rdG1 hi];exact congrArg some c0
            · rw[rdG1 hi];exact c1
            · rw[rdG1 hi];exact c2
            rw[w3at m (by omega),w3on m (by omega),w64s (i:=i) (by omega)]
            refine Ev.pos (by omega) (Ev.pos (by omega) ?_)
            by_cases d2:rd fl ((3*m+1:Nat):Int)=2
            · rw[d2]at r1;exact Ev.pos d2 (Ev.pos (by omega) r1)
            · refine Ev.neg d2 ?_
              by_cases d1:rd fl ((3*m+1:Nat):Int)=1
              · rw[d1]at r1;exact Ev.pos d1 (Ev.pos (by omega) r1)
              · have d0:rd fl ((3*m+1:Nat):Int)=0:=by omega
                rw[d0]at r1;exact Ev.neg d1 (Ev.pos (by omega) r1)
          · refine Ev.step (fun k=>impl_LeadVerdict.l0.eq_2 ..) (Ev.pos (by omega) (Ev.pos (by omega) (Ev.pos (by omega) ?_)))
            rw[hrd,rdG1 hi,w64s hj60,w3am m (by omega),w64s (i:=m) (by omega),w3min _ v0 v2]
            exact Ev.pos (by omega) (Ev.pos (by omega) (Ev.neg c1 (Ev.neg c2 (Ev.pos (by omega) (Ev.pos (by omega) (Ev.pos (by omega) r2))))))
    · have hn:othB x g[i]=false:=by unfold othB;rw[Bool.eq_false_iff.2 c0];rfl
      rw[opens_neg hi c0]at hj
      rw[oth_neg hi hn]at hm
      obtain⟨r,r0,r1,r2⟩:=hs acc m j (by omega) hm hj
      refine⟨r,r0,Ev.step (fun k=>spec_l18Results.l0.eq_2 ..) (Ev.pos (by omega) (Ev.pos (by omega) (Ev.pos (by omega) (Ev.bind0 (a:=false) ?_ (Ev.neg (by simp) ?_))))),r2⟩
      · rw[rdG1 hi];exact congrArg some (Bool.eq_false_iff.2 c0)
      · rw[w64s (i:=i) (by omega)];exact r1) (fun acc m j ha hm hj=>by
    rw[opens_end]at hj
    have hj':(opens g 0).length≤j:=List.drop_eq_nil_iff.1 hj
    exact⟨acc,by omega,Ev.step (fun k=>spec_l18Results.l0.eq_2 ..) (Ev.neg (by omega) (Ev.now _)),Ev.step (fun k=>impl_LeadVerdict.l0.eq_2 ..) (Ev.neg (by omega) (Ev.now _))⟩) g.length 0 (by omega)
  exact this [] 0 0 (by simp) (by omega) rfl
theorem riv_same(s:List Bool)(T:Nat)(hT:T≤8)(hs:2+T≤s.length):
    ∃r:List Int,r.length≤8∧Ev (fun k=>spec_LeadVerdict.l1 k s (T:Int) 0 false []) (false,[],r,true)∧Ev (fun k=>impl_LeadVerdict.l1 k s (T:Int) 0 false []) (false,[],r,true):=by
  have:=down (g:=fun i=>∀acc:List Int,acc.length≤i→∃r:List Int,r.length≤8∧Ev (fun k=>spec_LeadVerdict.l1 k s (T:Int) (i:Int) false acc) (false,[],r,true)∧Ev (fun k=>impl_LeadVerdict.l1 k s (T:Int) (i:Int) false acc) (false,[],r,true)) (n:=T) (fun i hi h acc ha=>by
    have hw:wrap64 ((i:Int)+1)=((i+1:Nat):Int):=w64s (by omega)
    have h2:wrap64 (2+(i:Int))=((2+i:Nat):Int):=by rw[w64 (by omega) (by omega)];omega
    by_cases c:rdOf false s ((2+i:Nat):Int)=true
    · obtain⟨r,r0,r1,r2⟩:=h (acc++[(i:Int)]) (by rw[List.length_append,List.length_singleton];omega)
      refine⟨r,r0,Ev.step (fun k=>spec_LeadVerdict.l1.eq_2 ..) (Ev.pos (by omega) ?_),Ev.step (fun k=>impl_LeadVerdict.l1.eq_2 ..) (Ev.pos (by omega) ?_)⟩
      · rw[h2,hw];exact Ev.pos (by omega) (Ev.pos (by omega) (Ev.pos c (Ev.pos (by omega) r1)))
      · rw[h2,hw];exact Ev.pos (by omega) (Ev.pos (by omega) (Ev.pos c (Ev.pos (by omega) r2)))
    · obtain⟨r,r0,r1,r2⟩:=h acc (by omega)
      refine⟨r,r0,Ev.step (fun k=>spec_LeadVerdict.l1.eq_2 ..) (Ev.pos (by omega) ?_),Ev.step (fun k=>impl_LeadVerdict.l1.eq_2 ..) (Ev.pos (by omega) ?_)⟩
      · rw[h2,hw];exact Ev.pos (by omega) (Ev.pos (by omega) (Ev.neg c r1))
      · rw[h2,hw];exact Ev.pos (by omega) (Ev.pos (by omega) (Ev.neg c r2))) (fun acc ha=>⟨acc,by omega,Ev.step (fun k=>spec_LeadVerdict.l1.eq_2 ..) (Ev.neg (by omega) (Ev.now _)),Ev.step (fun k=>impl_LeadVerdict.l1.eq_2 ..) (Ev.neg (by omega) (Ev.now _))⟩) T 0 (by omega)
  exact this [] (by simp)
theorem full_loop(t:List T1)(a b c:Int)(o:List Int)(d:Bool)(g:List G1)(f q:List Int)(x n:Int)(ps:List P1)(fl:List Int)(hl:ps.length≤1048576)(hf:fl.length=ps.length)(r:Bool×List Int×List Int×Bool)
    (h:Ev (fun k=>if fullB (ps.zip fl)=true then((spec_l18Results.f k t a b c o d g f q x fl).bind fun t541=>some (true,t541,([]:List Int),true))else((spec_SourceSide.f k n ps 0 fl).bind fun t544=>spec_LeadVerdict.l1 k t544 (t.length:Int) 0 false [])) r):
    Ev (fun k=>spec_LeadVerdict.l0 k x fl true ps (ps.length:Int) 0 t a b c o d g f q n ps) r:=by
  have:=down (g:=fun i=>∀z:Bool,(z&&fullB ((ps.zip fl).drop i))=fullB (ps.zip fl)→Ev (fun k=>spec_LeadVerdict.l0 k x fl z ps (ps.length:Int) (i:Int) t a b c o d g f q n ps) r) (n:=ps.length) (fun i hi hs z hz=>by
    have hw:wrap64 ((i:Int)+1)=((i+1:Nat):Int):=w64s (by omega)
    have hi2:i<fl.length:=by omega
    rw[List.drop_eq_getElem_cons (by rw[List.length_zip];omega),zip_get (by rw[List.length_zip];omega) hi hi2]at hz
    simp only[fullB]at hz
    refine Ev.step (fun k=>spec_LeadVerdict.l0.eq_2 ..) (Ev.pos (by omega) (Ev.pos (by omega) (Ev.pos (by omega) ?_)))
    rw[rd1_nat hi,rd_nat hi2,hw]
    cases z with
    |false=>exact Ev.neg (by simp) (hs false (by simpa using hz))
    |true=>
      refine Ev.pos rfl ?_
      by_cases c0:ps[i].f0=0
      · rw[if_pos c0]at hz
        exact Ev.pos c0 (Ev.pos (by omega) (hs _ (by simpa using hz)))
      · rw[if_neg c0]at hz
        exact Ev.neg c0 (hs true (by simpa using hz))) (fun z hz=>by
    rw[List.drop_eq_nil_of_le (by rw[List.length_zip];omega)]at hz
    simp only[fullB,Bool.and_true]at hz
    subst hz
    exact Ev.step (fun k=>spec_LeadVerdict.l0.eq_2 ..) (Ev.neg (by omega) h)) ps.length 0 (by omega)
  exact this true (by simp)
set_option maxHeartbeats 4000000 in
theorem lv_same(t:List T1)(a b c:Int)(o:List Int)(d:Bool)(g:List G1)(f q:List Int)(x:Int)(z1:t.length≤1048576)(zs:∀y∈t,y.f0.size≤1048576)(z2:o.length≤1048576)(z3:g.length≤1048576)(z4:f.length≤1048576)(z5:q.length≤1048576):
    ∃v:Bool×List Int×List Int×Bool,v.2.1.length≤1000∧v.2.2.1.length≤1000∧Ev (fun k=>spec_LeadVerdict.f k t a b c o d g f q x) v∧Ev (fun k=>impl_LeadVerdict.f k t a b c o d g f q x) v:=by
  have hs:=lead_spec t a b c o d g f q x z1 zs z2 z3 z4 z5
  have hi:=lead_impl t a b c o d g f q x z1 zs z2 z3 z4 z5
  unfold spec_LeadVerdict.f impl_LeadVerdict.f
  cases hb:leadB t a b c o g f q x with
  |false=>
    rw[hb]at hs hi
    exact⟨(false,[],[],false),by simp,by simp,Ev.bind hs (Ev.neg (by simp) (Ev.now _)),Ev.bind hi (Ev.neg (by simp) (Ev.now _))⟩
  |true=>
    rw[hb]at hs hi
    obtain⟨h1,h2,h3⟩:=lead_facts hb
    obtain⟨_,k1,k2,k3,k4⟩:=book_facts h1
    obtain⟨P,best,p0,p1,p2⟩:=net_same t a b c o d g f q x k1 k2 k3 k4 h2 h3
    have hol:=oth_len g x 0
    have hos:∀y∈oth g x 0,0≤y.f0∧y.f0≤1000∧0≤y.f1∧y.f1≤1000:=fun y hy=>by
      obtain⟨i,hi,rfl⟩:=List.mem_iff_getElem.1 (oth_mem hy)
      obtain⟨e1,e2,e3,e4,_⟩:=k4 i hi
      omega
    have had:=goR_adds ((2+t.length+(oth g x 0).length:Nat):Int) best x P 0 (trips (2+t.length) (oth g x 0)) (by omega)
    have hov:=goR_over ((2+t.length+(oth g x 0).length:Nat):Int) best x P 0 (trips (2+t.length) (oth g x 0))
    have hln:=goR_len ((2+t.length+(oth g x 0).length:Nat):Int) best x P 0 (trips (2+t.length) (oth g x 0))
    rw[trips_len]at hln
    generalize goR ((2+t.length+(oth g x 0).length:Nat):Int) best x P 0 (trips (2+t.length) (oth g x 0))=w at p1 p2 had hov hln
    obtain⟨n,ps,e⟩:=w
    simp only at had hov hln
    by_cases c1:e≥0
    · exact⟨(false,[],[e],true),by simp,by simp,Ev.bind hs (Ev.pos rfl (Ev.bind p1 (Ev.pos c1 (Ev.now _)))),Ev.bind hi (Ev.pos rfl (Ev.bind p2 (Ev.pos c1 (Ev.now _))))⟩
    · obtain⟨rfl,rest,rfl,hrest⟩:=had (by omega)
      generalize hps:trips (2+t.length) (oth g x 0)++rest=ps at p1 p2 hln
      obtain⟨⟨fl,ok⟩,f1,f2,f3,f4⟩:=gf_flow ((2+t.length+(oth g x 0).length:Nat):Int) ps 0 1 (by omega)
      cases ok with
      |false=>exact⟨(false,[],[],false),by simp,by simp,Ev.bind hs (Ev.pos rfl (Ev.bind p1 (Ev.neg c1 (Ev.bind f3 (Ev.neg (by simp) (Ev.now _)))))),Ev.bind hi (Ev.pos rfl (Ev.bind p2 (Ev.neg c1 (Ev.bind f4 (Ev.neg (by simp) (Ev.now _))))))⟩
      |true=>
        obtain⟨he,hgl,hgd⟩:=f2 rfl
        obtain⟨hnb,_,_,_⟩:=ends_facts he
        obtain⟨_,m2,_,m4⟩:=net_facts hnb
        simp only at f1 hgl hgd
        have hop:∀z∈ps.zip fl,PipeOk z:=fun z hz=>by
          obtain⟨i,hi,rfl⟩:=List.mem_iff_getElem.1 hz
          have hi1:i<ps.length:=by rw[List.length_zip]at hi;omega
          rw[zip_get hi hi1 (by omega)]
          have q1:=hgd i hi1
          rw[rd1_nat hi1,rd_nat (by omega)]at q1
          have q2:=m4 _ (List.getElem_mem hi1)
          have q3:ps[i]∈trips (2+t.length) (oth g x 0)++rest:=by rw[hps];exact List.getElem_mem hi1
          have q4:ps[i].f1≠0∧(ps[i].f0=0→ps[i].f2=2):=by
            rcases List.mem_append.1 q3 with h|h
            · have e1:=trips_f1 (oth g x 0) (2+t.length) (by omega) hos _ h
              exact⟨e1,(trips_src (oth g x 0) (2+t.length) (by omega)).2 _ h e1⟩
            · exact⟨(hrest _ h).2,fun e0=>absurd e0 (hrest _ h).1⟩
          exact⟨q4.1,by show ps[i].f0≠ps[i].f1;omega,q1.1,q1.2,by show ps[i].f2≤1000;omega,q4.2⟩
        obtain⟨s1,s2,s3⟩:=src_all _ hop
        have hC:srcC ((ps.zip fl).map (·.1))=(oth g x 0).length:=by
          rw[show(ps.zip fl).map (·.1)=ps from List.map_fst_zip (by omega),←hps,srcC_app,(trips_src (oth g x 0) (2+t.length) (by omega)).1,srcC_zero (fun p hp=>(hrest p hp).1)]
          omega
        have hV:flowV ps 0 fl=srcS (ps.zip fl):=by
          unfold flowV
          rw[src_fold _ hop 0 (by omega) (by rw[List.length_zip];omega)]
          omega
        rw[hC]at s2 s3
        have hfv:=impl_flowV ((2+t.length+(oth g x 0).length:Nat):Int) ps 0 fl (by omega) (by omega)
        rw[hV]at hfv
        have hot:=impl_oth t a b c o d g f q x (by omega)
        have h2m:wrap64 (2*((oth g x 0).length:Int))=2*((oth g x 0).length:Int):=w64 (by omega) (by omega)
        have spec:∀r,Ev (fun k=>if fullB (ps.zip fl)=true then((spec_l18Results.f k t a b c o d g f q x fl).bind fun t541=>some (true,t541,([]:List Int),true))else((spec_SourceSide.f k ((2+t.length+(oth g x 0).length:Nat):Int) ps 0 fl).bind fun t544=>spec_LeadVerdict.l1 k t544 (t.length:Int) 0 false [])) r→_:=fun r h=>full_loop t a b c o d g f q x ((2+t.length+(oth g x 0).length:Nat):Int) ps fl (by omega) (by omega) r h
        by_cases cf:fullB (ps.zip fl)=true
        · obtain⟨r,r0,r1,r2⟩:=res_same t a b c o d g f q x fl k3 (by omega) (by rw[hgl,←hps,List.length_append,trips_len];omega) (fun i hi=>by
            have hi2:3*i+1<ps.length:=by rw[←hps,List.length_append,trips_len];omega
            have q1:=hgd (3*i+1) hi2
            have q2:rd_T71 ps ((3*i+1:Nat):Int)=rd_T71 (trips (2+t.length) (oth g x 0)) ((3*i+1:Nat):Int):=by
              rw[←hps]
              simp only[rd_T71,Int.toNat_natCast]
              rw[List.getD_eq_getElem?_getD,List.getD_eq_getElem?_getD,List.getElem?_append_left (by rw[trips_len];omega)]
            rw[q2,trips_at _ _ i hi]at q1
            exact q1)
          refine⟨(true,r,[],true),by show r.length≤_;omega,by simp,Ev.bind hs (Ev.pos rfl (Ev.bind p1 (Ev.neg c1 (Ev.bind f3 (Ev.pos rfl (spec _ (Ev.pos cf (Ev.bind r1 (Ev.now _))))))))),Ev.bind hi (Ev.pos rfl (Ev.bind p2 (Ev.neg c1 (Ev.bind f4 (Ev.pos rfl (Ev.bind hfv (Ev.bind hot (Ev.pos ?_ (Ev.bind (impl_opens g (by omega)) r2)))))))))⟩
          rw[h2m];exact s3.2 cf
        · obtain⟨sd,sl,hsl,d1,d2⟩:=side_same ((2+t.length+(oth g x 0).length:Nat):Int) ps 0 fl (by omega) (by omega)
          replace hsl:=hsl hnb (by omega) (by omega)
          obtain⟨r,r0,r1,r2⟩:=riv_same sd t.length k1 (by omega)
          refine⟨(false,[],r,true),by simp,by show r.length≤_;omega,Ev.bind hs (Ev.pos rfl (Ev.bind p1 (Ev.neg c1 (Ev.bind f3 (Ev.pos rfl (spec _ (Ev.neg cf (Ev.bind d1 r1)))))))),Ev.bind hi (Ev.pos rfl (Ev.bind p2 (Ev.neg c1 (Ev.bind f4 (Ev.pos rfl (Ev.bind hfv (Ev.bind hot (Ev.neg ?_ (Ev.bind d2 r2)))))))))⟩
          rw[h2m];exact fun h=>cf (s3.1 h)
end Go.Proofs.YtgalpgakdcfilaaGreat.L
