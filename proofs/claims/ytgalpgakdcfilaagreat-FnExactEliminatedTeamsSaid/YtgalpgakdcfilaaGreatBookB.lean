/- Books that are valid: program and reference tell the same. Conditions: sizes of rows as the rows' forms allow. -/
import Derived.Test.YtgalpgakdcfilaaGreatRulesA
import Derived.Test.YtgalpgakdcfilaaGreatPK2
import Derived.Test.YtgalpgakdcfilaaGreatLawBook
import Derived.Test.YtgalpgakdcfilaaGreatL12
import Derived.Test.YtgalpgakdcfilaaGreatL37
import Derived.Test.YtgalpgakdcfilaaGreatL44
namespace Go.Proofs.YtgalpgakdcfilaaGreat.L
set_option linter.unusedVariables false
set_option linter.unusedSimpArgs false
open Go.RowKit Go.Proofs.YtgalpgakdcfilaaGreatW.PrintWords Go.Proofs.YtgalpgakdcfilaaGreat.PK
theorem name_same(s:ByteArray)(hs:s.size≤1048576):∃v,Ev (fun k=>spec_IsName.f k s) v∧Ev (fun k=>impl_IsName.f k s) v:=by
  have:=down (g:=fun i=>∃v,Ev (fun k=>spec_IsName.l0 k s (i:Int)) v∧Ev (fun k=>impl_IsName.l0 k s (s.size:Int) (i:Int)) v) (n:=s.size) (fun i hi hn=>by
    obtain⟨v,h1,h2⟩:=hn
    have hs1:∀{r},Ev (fun k=>if(bt s i)≥97 then(if((bt s i)≤122)then(spec_IsName.l0 k s (wrap64 ((i:Int)+1)))else(if(i:Int)=0 then(some false)else(if(bt s i)<48 then(some false)else(if(bt s i)>57 then(some false)else(spec_IsName.l0 k s (wrap64 ((i:Int)+1)))))))else(if(i:Int)=0 then(some false)else(if(bt s i)<48 then(some false)else(if(bt s i)>57 then(some false)else(spec_IsName.l0 k s (wrap64 ((i:Int)+1))))))) r→Ev (fun k=>spec_IsName.l0 k s (i:Int)) r:=
      fun h=>Ev.step (fun k=>spec_IsName.l0.eq_2 ..) (Ev.pos (by omega) (Ev.pos (by omega) h))
    have hs2:∀{r},Ev (fun k=>if(bt s i)≥97 then(if((bt s i)≤122)then(impl_IsName.l0 k s (s.size:Int) (wrap64 ((i:Int)+1)))else(if(i:Int)=0 then(some false)else(if(bt s i)<48 then(some false)else(if(bt s i)>57 then(some false)else(impl_IsName.l0 k s (s.size:Int) (wrap64 ((i:Int)+1)))))))else(if(i:Int)=0 then(some false)else(if(bt s i)<48 then(some false)else(if(bt s i)>57 then(some false)else(impl_IsName.l0 k s (s.size:Int) (wrap64 ((i:Int)+1))))))) r→Ev (fun k=>impl_IsName.l0 k s (s.size:Int) (i:Int)) r:=
      fun h=>Ev.step (fun k=>impl_IsName.l0.eq_2 ..) (Ev.pos (by omega) (Ev.pos (by omega) (Ev.pos (by omega) h)))
    have hw:wrap64 ((i:Int)+1)=((i+1:Nat):Int):=w64s (by omega)
    rw[hw]at hs1 hs2
    by_cases c1:(bt s i)≥97
    · by_cases c2:(bt s i)≤122
      · exact⟨v,hs1 (Ev.pos c1 (Ev.pos c2 h1)),hs2 (Ev.pos c1 (Ev.pos c2 h2))⟩
      · exact⟨false,hs1 (Ev.pos c1 (Ev.neg c2 (by
          by_cases c3:(i:Int)=0
          · exact Ev.pos c3 (Ev.now _)
          · exact Ev.neg c3 (Ev.neg (by omega) (Ev.pos (by omega) (Ev.now _)))))),hs2 (Ev.pos c1 (Ev.neg c2 (by
          by_cases c3:(i:Int)=0
          · exact Ev.pos c3 (Ev.now _)
          · exact Ev.neg c3 (Ev.neg (by omega) (Ev.pos (by omega) (Ev.now _))))))⟩
    · by_cases c3:(i:Int)=0
      · exact⟨false,hs1 (Ev.neg c1 (Ev.pos c3 (Ev.now _))),hs2 (Ev.neg c1 (Ev.pos c3 (Ev.now _)))⟩
      · by_cases c4:(bt s i)<48
        · exact⟨false,hs1 (Ev.neg c1 (Ev.neg c3 (Ev.pos c4 (Ev.now _)))),hs2 (Ev.neg c1 (Ev.neg c3 (Ev.pos c4 (Ev.now _))))⟩
        · by_cases c5:(bt s i)>57
          · exact⟨false,hs1 (Ev.neg c1 (Ev.neg c3 (Ev.neg c4 (Ev.pos c5 (Ev.now _))))),hs2 (Ev.neg c1 (Ev.neg c3 (Ev.neg c4 (Ev.pos c5 (Ev.now _)))))⟩
          · exact⟨v,hs1 (Ev.neg c1 (Ev.neg c3 (Ev.neg c4 (Ev.neg c5 h1)))),hs2 (Ev.neg c1 (Ev.neg c3 (Ev.neg c4 (Ev.neg c5 h2))))⟩) ⟨_,Ev.step (fun k=>spec_IsName.l0.eq_2 ..) (Ev.neg (by omega) (Ev.bind0 (spec_in _ _ _) (Ev.now _))),Ev.step (fun k=>impl_IsName.l0.eq_2 ..) (Ev.neg (by omega) (Ev.bind0 (impl_in _ _ _) (Ev.now _)))⟩ s.size 0 (by omega)
  exact this
open Classical in
noncomputable def nameB (s:ByteArray):Bool:=if h:s.size≤1048576 then(name_same s h).choose else false
theorem spec_name(s:ByteArray)(h:s.size≤1048576):Ev (fun k=>spec_IsName.f k s) (nameB s):=by
  unfold nameB;rw[dif_pos h];exact(name_same s h).choose_spec.1
theorem impl_name(s:ByteArray)(h:s.size≤1048576):Ev (fun k=>impl_IsName.f k s) (nameB s):=by
  unfold nameB;rw[dif_pos h];exact(name_same s h).choose_spec.2
noncomputable def teamB (t:T1):Bool:=nameB t.f0&&(decide (0≤t.f1∧t.f1≤5)&&decide (1≤t.f2∧t.f2≤8))
theorem spec_team(t:T1)(h:t.f0.size≤1048576):Ev (fun k=>spec_TeamOk.f k t.f0 t.f1 t.f2) (teamB t):=by
  unfold spec_TeamOk.f teamB
  refine Ev.bind (spec_name _ h) ?_
  cases nameB t.f0 with
  |false=>exact Ev.neg (by simp) (Ev.now _)
  |true=>
    refine Ev.pos rfl (Ev.bind0 (spec_in _ _ _) ?_)
    cases decide (0≤t.f1∧t.f1≤5)with
    |false=>exact Ev.neg (by simp) (Ev.now _)
    |true=>exact Ev.pos rfl (Ev.bind0 (spec_in _ _ _) (Ev.now _))
theorem impl_team(t:T1)(h:t.f0.size≤1048576):Ev (fun k=>impl_TeamOk.f k t.f0 t.f1 t.f2) (teamB t):=by
  unfold impl_TeamOk.f teamB
  refine Ev.bind (impl_name _ h) ?_
  cases nameB t.f0 with
  |false=>exact Ev.neg (by simp) (Ev.now _)
  |true=>
    refine Ev.pos rfl (Ev.bind0 (impl_in _ _ _) ?_)
    cases decide (0≤t.f1∧t.f1≤5)with
    |false=>exact Ev.neg (by simp) (Ev.now _)
    |true=>exact Ev.pos rfl (Ev.bind0 (impl_in _ _ _) (Ev.now _))
def likeT(t o:T1):Bool:=decide (o.f0.toList=t.f0.toList)||(o.f2==t.f2)
noncomputable def slotB (l:List T1) (i:Nat):Bool:=teamB (l.getD i z83)&& !(l.take i).any (likeT (l.getD i z83))
noncomputable def fieldB (l:List T1):Bool:=decide ((2:Int)≤(l.length:Int)∧(l.length:Int)≤8)&&(List.range l.length).all (slotB l)
theorem rdT1D{l:List T1}{i:Nat}:rd_T83 l (i:Int)=l.getD i z83:=by simp [rd_T83]
theorem getD_mem{l:List T1}{i:Nat}(h:i<l.length):l.getD i z83∈l:=by
  simp [List.getD_eq_getElem?_getD,h]
theorem impl_like(l:List T1)(t:T1)(hl:l.length≤1048576):Ev (fun k=>slices_ContainsFunc_impl_Team_impl_Team_impl_FieldOk_1.f k l t.f0 t.f1 t.f2) (l.any (likeT t)):=by
  obtain⟨r,h1,h2⟩:=Ev.place (fun i k=>slices_IndexFunc_impl_Team_impl_Team_impl_FieldOk_1.l0 k l (l.length:Int) (i:Int) t.f0 t.f1 t.f2) l (likeT t) (fun i h e r hr=>by
    refine Ev.step (fun k=>slices_IndexFunc_impl_Team_impl_Team_impl_FieldOk_1.l0.eq_2 ..) (Ev.pos (by omega) (Ev.pos (by omega) (Ev.pos (by omega) (Ev.bind0 (a:=false) ?_ (Ev.neg (by simp) ?_)))))
    · unfold likeT at e
      rw[Bool.or_eq_false_iff]at e
      unfold impl_FieldOk_1.f
      rw[rdT1 h,if_neg (of_decide_eq_false e.1),e.2]
    · rw[w64s (by omega)];exact hr) (fun i h e=>by
    refine Ev.step (fun k=>slices_IndexFunc_impl_Team_impl_Team_impl_FieldOk_1.l0.eq_2 ..) (Ev.pos (by omega) (Ev.pos (by omega) (Ev.pos (by omega) (Ev.bind0 (a:=true) ?_ (Ev.pos rfl (Ev.now _))))))
    unfold likeT at e
    unfold impl_FieldOk_1.f
    rw[rdT1 h]
    by_cases c:l[i].f0.toList=t.f0.toList
    · rw[if_pos c]
    · rw[if_neg c];rw[decide_eq_false c,Bool.false_or]at e;rw[e])
    (Ev.step (fun k=>slices_IndexFunc_impl_Team_impl_Team_impl_FieldOk_1.l0.eq_2 ..) (Ev.neg (by omega) (Ev.now _)))
  rw[←h2]
  exact Ev.bind h1 (Ev.now _)
theorem spec_field(l:List T1)(hl:l.length≤1048576)(hs:∀y∈l,y.f0.size≤1048576):Ev (fun k=>spec_FieldOk.f k l) (fieldB l):=by
  unfold spec_FieldOk.f fieldB
  refine Ev.bind0 (spec_in _ _ _) ?_
  cases decide ((2:Int)≤(l.length:Int)∧(l.length:Int)≤8)with
  |false=>exact Ev.neg (by simp) (Ev.now _)
  |true=>
    rw[Bool.true_and]
    refine Ev.pos rfl ?_
    have hin:∀(i:Nat) (h:i<l.length) (r:Bool),Ev (fun k=>spec_FieldOk.l0 k l l (l.length:Int) ((i+1:Nat):Int)) r→teamB (l.getD i z83)=true→Ev (fun k=>spec_FieldOk.l0 k l l (l.length:Int) (i:Int)) (if(l.take i).any (likeT (l.getD i z83))then false else r):=fun i h r hr ht=>by
      refine Ev.step (fun k=>spec_FieldOk.l0.eq_2 ..) (Ev.pos (by omega) (Ev.pos (by omega) (Ev.pos (by omega) ?_)))
      rw[rdT1D,Int.toNat_natCast]
      refine Ev.bind (spec_team _ (hs _ (getD_mem h))) (Ev.pos ht (Ev.pos (by omega) (Ev.bind0 rfl ?_)))
      refine Ev.anyK (fun j k=>spec_FieldOk.l1 k l l (l.length:Int) (i:Int) (l.take i) ((l.take i).length:Int) (j:Int) (l.getD i z83).f0 (l.getD i z83).f1 (l.getD i z83).f2) (l.take i) (likeT (l.getD i z83)) false r (fun j hj e=>?_) (fun j hj e r2 hr2=>?_) ?_
      · refine Ev.step (fun k=>spec_FieldOk.l1.eq_2 ..) (Ev.pos (by omega) (Ev.pos (by omega) (Ev.pos (by omega) ?_)))
        rw[rdT1 hj]
        unfold likeT at e
        by_cases c:(l.take i)[j].f0.toList=(l.getD i z83).f0.toList
        · exact Ev.pos c (Ev.now _)
        · rw[decide_eq_false c,Bool.false_or]at e
          exact Ev.neg c (Ev.pos (by simpa using e) (Ev.now _))
      · refine Ev.step (fun k=>spec_FieldOk.l1.eq_2 ..) (Ev.pos (by omega) (Ev.pos (by omega) (Ev.pos (by omega) ?_)))
        rw[rdT1 hj]
        unfold likeT at e
        rw[Bool.or_eq_false_iff]at e
        have hj2:(l.take i).length≤1048576:=by rw[List.length_take];omega
        refine Ev.neg (of_decide_eq_false e.1) (Ev.neg (by simpa using e.2) ?_)
        rw[w64s (by omega)];exact hr2
      · refine Ev.step (fun k=>spec_FieldOk.l1.eq_2 ..) (Ev.neg (by omega) ?_)
        rw[w64s (by omega)];exact hr
    have:=Ev.all (fun i k=>spec_FieldOk.l0 k l l (l.length:Int) (i:Int)) (List.range l.length) (slotB l) true (fun i h ht r hr=>by
      simp only[List.length_range]at h
      simp only[List.getElem_range]at ht
      unfold slotB at ht
      rw[Bool.and_eq_true]at ht
      have:=hin i h r hr ht.1
      rwa [if_neg (by simpa using ht.2)]at this) (fun i h ht=>by
      simp only[List.length_range]at h
      simp only[List.getElem_range]at ht
      unfold slotB at ht
      cases hq:teamB (l.getD i z83)with
      |false=>
        refine Ev.step (fun k=>spec_FieldOk.l0.eq_2 ..) (Ev.pos (by omega) (Ev.pos (by omega) (Ev.pos (by omega) ?_)))
        rw[rdT1D]
        exact Ev.bind (spec_team _ (hs _ (getD_mem h))) (Ev.neg (by rw[hq];simp) (Ev.now _))
      |true=>
        rw[hq,Bool.true_and]at ht
        refine Ev.step (fun k=>spec_FieldOk.l0.eq_2 ..) (Ev.pos (by omega) (Ev.pos (by omega) (Ev.pos (by omega) ?_)))
        rw[rdT1D,Int.toNat_natCast]
        refine Ev.bind (spec_team _ (hs _ (getD_mem h))) (Ev.pos hq (Ev.pos (by omega) (Ev.bind0 rfl ?_)))
        have ha:(l.take i).any (likeT (l.getD i z83))=true:=by simpa using ht
        obtain⟨x,hx,hxt⟩:=List.any_eq_true.1 ha
        obtain⟨m,hm,rfl⟩:=List.mem_iff_getElem.1 hx
        have hj2:(l.take i).length≤1048576:=by rw[List.length_take];omega
        have:=down (g:=fun j=>Ev (fun k=>spec_FieldOk.l1 k l l (l.length:Int) (i:Int) (l.take i) ((l.take i).length:Int) (j:Int) (l.getD i z83).f0 (l.getD i z83).f1 (l.getD i z83).f2) false) (n:=m) (fun j hj hn=>by
          have hj':j<(l.take i).length:=by omega
          refine Ev.step (fun k=>spec_FieldOk.l1.eq_2 ..) (Ev.pos (by omega) (Ev.pos (by omega) (Ev.pos (by omega) ?_)))
          rw[rdT1 hj']
          by_cases c:(l.take i)[j].f0.toList=(l.getD i z83).f0.toList
          · exact Ev.pos c (Ev.now _)
          · by_cases c2:(l.take i)[j].f2=(l.getD i z83).f2
            · exact Ev.neg c (Ev.pos c2 (Ev.now _))
            · refine Ev.neg c (Ev.neg c2 ?_)
              rw[w64s (by omega)];exact hn) (by
          refine Ev.step (fun k=>spec_FieldOk.l1.eq_2 ..) (Ev.pos (by omega) (Ev.pos (by omega) (Ev.pos (by omega) ?_)))
          rw[rdT1 hm]
          unfold likeT at hxt
          by_cases c:(l.take i)[m].f0.toList=(l.getD i z83).f0.toList
          · exact Ev.pos c (Ev.now _)
          · rw[decide_eq_false c,Bool.false_or]at hxt
            exact Ev.neg c (Ev.pos (by simpa using hxt) (Ev.now _))) m 0 (by omega)
        exact this) (by
      rw[List.length_range]
      exact Ev.step (fun k=>spec_FieldOk.l0.eq_2 ..) (Ev.neg (by omega) (Ev.now _)))
    simpa using this
theorem impl_field(l:List T1)(hl:l.length≤1048576)(hs:∀y∈l,y.f0.size≤1048576):Ev (fun k=>impl_FieldOk.f k l) (fieldB l):=by
  unfold impl_FieldOk.f fieldB
  rw[Bool.and_comm]
  have:=Ev.all (fun i k=>impl_FieldOk.l0 k l l (l.length:Int) (i:Int)) (List.range l.length) (slotB l) (decide ((2:Int)≤(l.length:Int)∧(l.length:Int)≤8)) (fun i h ht r hr=>by
    simp only[List.length_range]at h
    simp only[List.getElem_range]at ht
    unfold slotB at ht
    rw[Bool.and_eq_true]at ht
    refine Ev.step (fun k=>impl_FieldOk.l0.eq_2 ..) (Ev.pos (by omega) (Ev.pos (by omega) (Ev.pos (by omega) ?_)))
    rw[rdT1D,Int.toNat_natCast]
    refine Ev.bind (impl_team _ (hs _ (getD_mem h))) (Ev.pos ht.1 (Ev.pos (by omega) (Ev.bind (impl_like _ _ (by rw[List.length_take];omega)) (Ev.neg (by simpa using ht.2) ?_))))
    rw[w64s (by omega)];exact hr) (fun i h ht=>by
    simp only[List.length_range]at h
    simp only[List.getElem_range]at ht
    unfold slotB at ht
    refine Ev.step (fun k=>impl_FieldOk.l0.eq_2 ..) (Ev.pos (by omega) (Ev.pos (by omega) (Ev.pos (by omega) ?_)))
    rw[rdT1D,Int.toNat_natCast]
    refine Ev.bind (impl_team _ (hs _ (getD_mem h))) ?_
    cases hq:teamB (l.getD i z83)with
    |false=>exact Ev.neg (by simp) (Ev.now _)
    |true=>
      rw[hq,Bool.true_and]at ht
      exact Ev.pos rfl (Ev.pos (by omega) (Ev.bind (impl_like _ _ (by rw[List.length_take];omega)) (Ev.pos (by simpa using ht) (Ev.now _))))) (by
    rw[List.length_range]
    exact Ev.step (fun k=>impl_FieldOk.l0.eq_2 ..) (Ev.neg (by omega) (Ev.bind0 (impl_in _ _ _) (Ev.now _))))
  exact this
def gameB(n:Int)(g:G1):Bool:=decide (2≤n∧n≤8)&&(decide (0≤g.f0∧g.f0≤n-1)&&(decide (0≤g.f1∧g.f1≤n-1)&&(decide (¬g.f0=g.f1)&&(decide (0≤g.f4∧g.f4≤4)&&(decide (0≤g.f2∧g.f2≤(if g.f4=1 then 99 else 0))&&decide (0≤g.f3∧g.f3≤(if g.f4=1 then 99 else 0)))))))
theorem spec_game(n:Int)(g:G1)(h0:0≤n)(h1:n≤1048576):Ev (fun k=>spec_GameOk.f k n g.f0 g.f1 g.f2 g.f3 g.f4) (gameB n g):=by
  have hj:Ev (fun k=>spec_GameOk.j0 k true g.f0 g.f1 g.f2 g.f3 g.f4) false:=Ev.step (fun k=>spec_GameOk.j0.eq_2 ..) (Ev.pos rfl (Ev.now _))
  unfold spec_GameOk.f gameB
  rw[w64 (by omega) (by omega)]
  refine Ev.bind0 (spec_in _ _ _) ?_
  cases decide (2≤n∧n≤8)with
  |false=>exact Ev.neg (by simp) hj
  |true=>
    rw[Bool.true_and]
    refine Ev.pos rfl (Ev.bind0 (spec_in _ _ _) ?_)
    cases decide (0≤g.f0∧g.f0≤n-1)with
    |false=>exact Ev.neg (by simp) hj
    |true=>
      rw[Bool.true_and]
      refine Ev.pos rfl (Ev.bind0 (spec_in _ _ _) ?_)
      cases decide (0≤g.f1∧g.f1≤n-1)with
      |false=>exact Ev.neg (by simp) hj
      |true=>
        rw[Bool.true_and]
        refine Ev.pos rfl ?_
        by_cases c1:g.f0=g.f1
        · rw[decide_eq_false (not_not_intro c1),Bool.false_and]
          exact Ev.pos c1 hj
        · rw[decide_eq_true c1,Bool.true_and]
          refine Ev.neg c1 (Ev.bind0 (spec_in _ _ _) ?_)
          cases decide (0≤g.f4∧g.f4≤4)with
          |false=>exact hj
          |true=>
            rw[Bool.true_and]
            refine Ev.step (fun k=>spec_GameOk.j0.eq_2 ..) (Ev.neg (by simp) ?_)
            by_cases c2:g.f4=1
            · rw[show(if g.f4=1 then(99:Int)else 0)=99 from if_pos c2]
              refine Ev.pos c2 (Ev.bind0 (spec_in _ _ _) ?_)
              cases decide (0≤g.f2∧g.f2≤99)with
              |false=>exact Ev.neg (by simp) (Ev.now _)
              |true=>exact Ev.pos rfl (Ev.bind0 (spec_in _ _ _) (Ev.now _))
            · rw[show(if g.f4=1 then(99:Int)else 0)=0 from if_neg c2]
              refine Ev.neg c2 ?_
              by_cases c3:g.f2=0
              · rw[decide_eq_true (show 0≤g.f2∧g.f2≤0 by omega),Bool.true_and,show decide (0≤g.f3∧g.f3≤0)=(g.f3==0) by rw[Bool.eq_iff_iff];simp;omega]
                exact Ev.pos c3 (Ev.now _)
              · rw[decide_eq_false (show ¬(0≤g.f2∧g.f2≤0) by omega),Bool.false_and]
                exact Ev.neg c3 (Ev.now _)
theorem impl_game(n:Int)(g:G1)(h0:0≤n)(h1:n≤1048576):Ev (fun k=>impl_GameOk.f k n g.f0 g.f1 g.f2 g.f3 g.f4) (gameB n g):=by
  have key:∀m:Int,Ev (fun k=>impl_GameOk.j0 k n m g.f0 g.f1 g.f2 g.f3 g.f4) (decide (2≤n∧n≤8)&&(decide (0≤g.f0∧g.f0≤n-1)&&(decide (0≤g.f1∧g.f1≤n-1)&&(decide (¬g.f0=g.f1)&&(decide (0≤g.f4∧g.f4≤4)&&(decide (0≤g.f2∧g.f2≤m)&&decide (0≤g.f3∧g.f3≤m))))))):=by
    intro m
    refine Ev.step (fun k=>impl_GameOk.j0.eq_2 ..) ?_
    rw[w64 (n:=n-1) (by omega) (by omega)]
    refine Ev.bind0 (impl_in _ _ _) ?_
    cases decide (2≤n∧n≤8)with
    |false=>exact Ev.neg (by simp) (Ev.now _)
    |true=>
      rw[Bool.true_and]
      refine Ev.pos rfl ?_
      by_cases c1:g.f0=g.f1
      · rw[decide_eq_false (not_not_intro c1),Bool.false_and,Bool.and_false,Bool.and_false]
        exact Ev.pos c1 (Ev.now _)
      · rw[decide_eq_true c1,Bool.true_and]
        refine Ev.neg c1 (Ev.bind0 (impl_in _ _ _) ?_)
        cases decide (0≤g.f0∧g.f0≤n-1)with
        |false=>exact Ev.neg (by simp) (Ev.now _)
        |true=>
          rw[Bool.true_and]
          refine Ev.pos rfl (Ev.bind0 (impl_in _ _ _) ?_)
          cases decide (0≤g.f1∧g.f1≤n-1)with
          |false=>exact Ev.neg (by simp) (Ev.now _)
          |true=>
            rw[Bool.true_and]
            refine Ev.pos rfl (Ev.bind0 (impl_in _ _ _) ?_)
            cases decide (0≤g.f4∧g.f4≤4)with
            |false=>exact Ev.neg (by simp) (Ev.now _)
            |true=>
              rw[Bool.true_and]
              refine Ev.pos rfl (Ev.bind0 (impl_in _ _ _) ?_)
              cases decide (0≤g.f2∧g.f2≤m)with
              |false=>exact Ev.neg (by simp) (Ev.now _)
              |true=>exact Ev.pos rfl (Ev.bind0 (impl_in _ _ _) (Ev.now _))
  unfold impl_GameOk.f gameB
  by_cases c:g.f4=1
  · rw[if_pos c];exact Ev.pos c (key 99)
  · rw[if_neg c];exact Ev.neg c (key 0)
def meetG(h a:Int)(g:G1):Bool:=decide (g.f0=h)&&(g.f1==a)
def gslotB(n:Int)(l:List G1)(i:Nat):Bool:=gameB n (l.getD i z79)&& !(l.take i).any (meetG (l.getD i z79).f0 (l.getD i z79).f1)
def seasonB(n:Int)(l:List G1):Bool:=decide ((l.length:Int)≤60)&&(List.range l.length).all (gslotB n l)
theorem getDG{l:List G1}{i:Nat}(h:i<l.length):l.getD i z79=l[i]:=by simp [List.getD_eq_getElem?_getD,h]
theorem impl_gameOf(l:List G1)(x y:Int)(hl:l.length≤1048576):∃r:Int,Ev (fun k=>impl_GameOf.f k l x y) r∧decide (r≥0)=l.any (meetG x y):=by
  obtain⟨r,h1,h2⟩:=Ev.place (fun i k=>slices_IndexFunc_impl_Game_impl_Game_impl_GameOf_1.l0 k l (l.length:Int) (i:Int) x y) l (meetG x y) (fun i h e r hr=>by
    refine Ev.step (fun k=>slices_IndexFunc_impl_Game_impl_Game_impl_GameOf_1.l0.eq_2 ..) (Ev.pos (by omega) (Ev.pos (by omega) (Ev.pos (by omega) (Ev.bind0 (a:=false) ?_ (Ev.neg (by simp) ?_)))))
    · unfold meetG at e
      unfold impl_GameOf_1.f
      rw[rdG1 h]
      by_cases c:l[i].f0=x
      · rw[decide_eq_true c,Bool.true_and]at e;rw[if_pos c,e]
      · rw[if_neg c]
    · rw[w64s (by omega)];exact hr) (fun i h e=>by
    refine Ev.step (fun k=>slices_IndexFunc_impl_Game_impl_Game_impl_GameOf_1.l0.eq_2 ..) (Ev.pos (by omega) (Ev.pos (by omega) (Ev.pos (by omega) (Ev.bind0 (a:=true) ?_ (Ev.pos rfl (Ev.now _))))))
    unfold meetG at e
    rw[Bool.and_eq_true]at e
    unfold impl_GameOf_1.f
    rw[rdG1 h,if_pos (of_decide_eq_true e.1),e.2])
    (Ev.step (fun k=>slices_IndexFunc_impl_Game_impl_Game_impl_GameOf_1.l0.eq_2 ..) (Ev.neg (by omega) (Ev.now _)))
  exact⟨r,Ev.bind h1 (Ev.now _),h2⟩
theorem spec_gameOf(l:List G1)(x y:Int)(hl:l.length≤1048576):∃r:Int,Ev (fun k=>spec_GameOf.f k l x y) r∧((r= -1∧∀j (h:j<l.length),meetG x y l[j]=false)∨∃m,∃hm:m<l.length,r=(m:Int)∧meetG x y l[m]=true∧∀j (h:j<l.length),j<m→meetG x y l[j]=false):=by
  refine Ev.first (fun i k=>spec_GameOf.l0 k x y l (l.length:Int) (i:Int)) l (meetG x y) (fun i h e r hr=>?_) (fun i h e=>?_) ?_
  · refine Ev.step (fun k=>spec_GameOf.l0.eq_2 ..) (Ev.pos (by omega) (Ev.pos (by omega) (Ev.pos (by omega) ?_)))
    rw[rdG1 h,w64s (by omega)]
    unfold meetG at e
    by_cases c:l[i].f0=x
    · rw[decide_eq_true c,Bool.true_and]at e
      exact Ev.pos c (Ev.neg (by simpa using e) hr)
    · exact Ev.neg c hr
  · refine Ev.step (fun k=>spec_GameOf.l0.eq_2 ..) (Ev.pos (by omega) (Ev.pos (by omega) (Ev.pos (by omega) ?_)))
    rw[rdG1 h]
    unfold meetG at e
    rw[Bool.and_eq_true]at e
    exact Ev.pos (of_decide_eq_true e.1) (Ev.pos (by simpa using e.2) (Ev.now _))
  · exact Ev.step (fun k=>spec_GameOf.l0.eq_2 ..) (Ev.neg (by omega) (Ev.now _))
theorem spec_season(n:Int)(l:List G1)(h0:0≤n)(h1:n≤1048576)(hl:l.length≤1048576):Ev (fun k=>spec_SeasonOk.f k n l) (seasonB n l):=by
  unfold spec_SeasonOk.f seasonB
  by_cases c0:(l.length:Int)≤60
  · rw[decide_eq_true c0,Bool.true_and]
    refine Ev.neg (by omega) ?_
    have hr0:∀(i:Nat) (h:i<l.length) (r:Int),((r= -1∧∀j (h:j<l.length),meetG l[i].f0 l[i].f1 l[j]=false)∨∃m,∃hm:m<l.length,r=(m:Int)∧meetG l[i].f0 l[i].f1 l[m]=true∧∀j (h:j<l.length),j<m→meetG l[i].f0 l[i].f1 l[j]=false)→(r=(i:Int)↔(l.take i).any (meetG l[i].f0 l[i].f1)=false):=fun i h r hr=>by
      have hii:meetG l[i].f0 l[i].f1 l[i]=true:=by simp [meetG]
      rcases hr with ⟨_,ha⟩|⟨m,hm,rfl,h4,ha⟩
      · rw[ha i h]at hii;cases hii
      · have ht:=any_take l (meetG l[i].f0 l[i].f1) i (by omega)
        constructor
        · intro e
          have e:m=i:=by omega
          subst e
          rw[Bool.eq_false_iff]
          intro hq
          obtain⟨j,hj,hji,hjt⟩:=ht.1 hq
          rw[ha j hj hji]at hjt;cases hjt
        · intro hq
          rw[Bool.eq_false_iff]at hq
          by_cases c:m<i
          · exact absurd (ht.2 ⟨m,hm,c,h4⟩) hq
          · by_cases c2:i<m
            · rw[ha i h c2]at hii;cases hii
            · omega
    have:=Ev.all (fun i k=>spec_SeasonOk.l0 k n l l (l.length:Int) (i:Int)) (List.range l.length) (gslotB n l) true (fun i h ht r hr=>by
      simp only[List.length_range]at h
      simp only[List.getElem_range]at ht
      unfold gslotB at ht
      rw[getDG h,Bool.and_eq_true]at ht
      obtain⟨q,hq1,hq2⟩:=spec_gameOf l l[i].f0 l[i].f1 hl
      refine Ev.step (fun k=>spec_SeasonOk.l0.eq_2 ..) (Ev.pos (by omega) (Ev.pos (by omega) (Ev.pos (by omega) ?_)))
      rw[rdG1 h]
      refine Ev.bind (spec_game n l[i] h0 h1) (Ev.pos ht.1 (Ev.bind hq1 (Ev.pos ((hr0 i h q hq2).2 (by simpa using ht.2)) ?_)))
      rw[w64s (by omega)];exact hr) (fun i h ht=>by
      simp only[List.length_range]at h
      simp only[List.getElem_range]at ht
      unfold gslotB at ht
      rw[getDG h]at ht
      obtain⟨q,hq1,hq2⟩:=spec_gameOf l l[i].f0 l[i].f1 hl
      refine Ev.step (fun k=>spec_SeasonOk.l0.eq_2 ..) (Ev.pos (by omega) (Ev.pos (by omega) (Ev.pos (by omega) ?_)))
      rw[rdG1 h]
      refine Ev.bind (spec_game n l[i] h0 h1) ?_
      cases hg:gameB n l[i]with
      |false=>exact Ev.neg (by simp) (Ev.now _)
      |true=>
        rw[hg,Bool.true_and]at ht
        exact Ev.pos rfl (Ev.bind hq1 (Ev.neg (fun e=>by rw[(hr0 i h q hq2).1 e]at ht;cases ht) (Ev.now _)))) (by
      rw[List.length_range]
      exact Ev.step (fun k=>spec_SeasonOk.l0.eq_2 ..) (Ev.neg (by omega) (Ev.now _)))
    simpa using this
  · rw[decide_eq_false c0,Bool.false_and]
    exact Ev.pos (by omega) (Ev.now _)
theorem impl_season(n:Int)(l:List G1)(h0:0≤n)(h1:n≤1048576)(hl:l.length≤1048576):Ev (fun k=>impl_SeasonOk.f k n l) (seasonB n l):=by
  unfold impl_SeasonOk.f seasonB
  rw[Bool.and_comm]
  have:=Ev.all (fun i k=>impl_SeasonOk.l0 k n l l (l.length:Int) (i:Int)) (List.range l.length) (gslotB n l) (decide ((l.length:Int)≤60)) (fun i h ht r hr=>by
    simp only[List.length_range]at h
    simp only[List.getElem_range]at ht
    unfold gslotB at ht
    rw[getDG h,Bool.and_eq_true]at ht
    obtain⟨q,hq1,hq2⟩:=impl_gameOf (l.take i) l[i].f0 l[i].f1 (by rw[List.length_take];omega)
    refine Ev.step (fun k=>impl_SeasonOk.l0.eq_2 ..) (Ev.pos (by omega) (Ev.pos (by omega) (Ev.pos (by omega) ?_)))
    rw[rdG1 h,Int.toNat_natCast]
    refine Ev.bind (impl_game n l[i] h0 h1) (Ev.pos ht.1 (Ev.pos (by omega) (Ev.bind hq1 (Ev.neg ?_ ?_))))
    · have h5:(l.take i).any (meetG l[i].f0 l[i].f1)=false:=by simpa using ht.2
      rw[h5]at hq2
      exact of_decide_eq_false hq2
    · rw[w64s (by omega)];exact hr) (fun i h ht=>by
    simp only[List.length_range]at h
    simp only[List.getElem_range]at ht
    unfold gslotB at ht
    rw[getDG h]at ht
    obtain⟨q,hq1,hq2⟩:=impl_gameOf (l.take i) l[i].f0 l[i].f1 (by rw[List.length_take];omega)
    refine Ev.step (fun k=>impl_SeasonOk.l0.eq_2 ..) (Ev.pos (by omega) (Ev.pos (by omega) (Ev.pos (by omega) ?_)))
    rw[rdG1 h,Int.toNat_natCast]
    refine Ev.bind (impl_game n l[i] h0 h1) ?_
    cases hg:gameB n l[i]with
    |false=>exact Ev.neg (by simp) (Ev.now _)
    |true=>
      rw[hg,Bool.true_and]at ht
      have h5:(l.take i).any (meetG l[i].f0 l[i].f1)=true:=by simpa using ht
      rw[h5]at hq2
      exact Ev.pos rfl (Ev.pos (by omega) (Ev.bind hq1 (Ev.pos (of_decide_eq_true hq2) (Ev.now _))))) (by
    rw[List.length_range]
    exact Ev.step (fun k=>impl_SeasonOk.l0.eq_2 ..) (Ev.neg (by omega) (Ev.now _)))
  exact this
def penB(x:Int):Bool:=decide (0≤x∧x≤1000)
theorem impl_pen(l:List Int)(n:Int)(hl:l.length≤1048576):Ev (fun k=>impl_arePenalties.f k l n) (decide ((l.length:Int)=n)&&l.all penB):=by
  unfold impl_arePenalties.f
  by_cases c:(l.length:Int)=n
  · rw[decide_eq_true c,Bool.true_and]
    obtain⟨r,h1,h2⟩:=Ev.place (fun i k=>slices_IndexFunc_int_int_impl_arePenalties_1.l0 k l (l.length:Int) (i:Int)) l (fun x=> !penB x) (fun i h e r hr=>by
      refine Ev.step (fun k=>slices_IndexFunc_int_int_impl_arePenalties_1.l0.eq_2 ..) (Ev.pos (by omega) (Ev.pos (by omega) (Ev.pos (by omega) (Ev.bind0 (a:=false) ?_ (Ev.neg (by simp) ?_)))))
      · unfold impl_arePenalties_1.f
        rw[rd_nat h,impl_in,Option.bind_some]
        exact congrArg some e
      · rw[w64s (by omega)];exact hr) (fun i h e=>by
      refine Ev.step (fun k=>slices_IndexFunc_int_int_impl_arePenalties_1.l0.eq_2 ..) (Ev.pos (by omega) (Ev.pos (by omega) (Ev.pos (by omega) (Ev.bind0 (a:=true) ?_ (Ev.pos rfl (Ev.now _))))))
      unfold impl_arePenalties_1.f
      rw[rd_nat h,impl_in,Option.bind_some]
      exact congrArg some e)
      (Ev.step (fun k=>slices_IndexFunc_int_int_impl_arePenalties_1.l0.eq_2 ..) (Ev.neg (by omega) (Ev.now _)))
    have e:l.all penB= !decide (r≥0):=by rw[h2,List.all_eq_not_any_not]
    rw[e]
    exact Ev.pos c (Ev.bind (Ev.bind h1 (Ev.now _)) (Ev.now _))
  · rw[decide_eq_false c,Bool.false_and]
    exact Ev.neg c (Ev.now _)
noncomputable def bookB (t:List T1) (a b c:Int) (o:List Int) (g:List G1) (f q:List Int):Bool:=
  fieldB t&&(rulesB a b c o&&(seasonB (t.length:Int) g&&((decide ((f.length:Int)=(t.length:Int))&&f.all penB)&&(decide ((q.length:Int)=(t.length:Int))&&q.all penB))))
theorem impl_book(t:List T1)(a b c:Int)(o:List Int)(d:Bool)(g:List G1)(f q:List Int)(z1:t.length≤1048576)(zs:∀y∈t,y.f0.size≤1048576)(z2:o.length≤1048576)(z3:g.length≤1048576)(z4:f.length≤1048576)(z5:q.length≤1048576):
    Ev (fun k=>impl_BookOk.f k t a b c o d g f q) (bookB t a b c o g f q):=by
  unfold impl_BookOk.f bookB
  refine Ev.bind (impl_field t z1 zs) ?_
  cases fieldB t with
  |false=>exact Ev.neg (by simp) (Ev.now _)
  |true=>
    refine Ev.pos rfl (Ev.bind (impl_rules a b c o d (by omega)) ?_)
    cases rulesB a b c o with
    |false=>exact Ev.neg (by simp) (Ev.now _)
    |true=>
      refine Ev.pos rfl (Ev.bind (impl_season _ g (by omega) (by omega) z3) ?_)
      cases seasonB (t.length:Int) g with
      |false=>exact Ev.neg (by simp) (Ev.now _)
      |true=>
        refine Ev.pos rfl (Ev.bind (impl_pen f _ z4) ?_)
        cases (decide ((f.length:Int)=(t.length:Int))&&f.all penB)with
        |false=>exact Ev.neg (by simp) (Ev.now _)
        |true=>exact Ev.pos rfl (Ev.bind (impl_pen q _ z5) (Ev.now _))
theorem all_two(f q:List Int)(n:Nat)(hf:f.length=n)(hq:q.length=n):(List.range n).all (fun i=>penB (f.getD i 0)&&penB (q.getD i 0))=(f.all penB&&q.all penB):=by
  rw[Bool.eq_iff_iff,Bool.and_eq_true,List.all_eq_true,List.all_eq_true,List.all_eq_true]
  constructor
  · intro h
    constructor
    · intro x hx
      obtain⟨j,hj,rfl⟩:=List.mem_iff_getElem.1 hx
      have:=h j (by rw[List.mem_range];omega)
      rw[Bool.and_eq_true]at this
      simpa [List.getD_eq_getElem?_getD,hj] using this.1
    · intro x hx
      obtain⟨j,hj,rfl⟩:=List.mem_iff_getElem.1 hx
      have:=h j (by rw[List.mem_range];omega)
      rw[Bool.and_eq_true]at this
      simpa [List.getD_eq_getElem?_getD,hj] using this.2
  · rintro⟨h1,h2⟩ i hi
    rw[List.mem_range]at hi
    have i1:i<f.length:=by omega
    have i2:i<q.length:=by omega
    rw[Bool.and_eq_true]
    refine⟨?_,?_⟩
    · have:=h1 f[i] (List.getElem_mem i1)
      simpa [List.getD_eq_getElem?_getD,i1] using this
    · have:=h2 q[i] (List.getElem_mem i2)
      simpa [List.getD_eq_getElem?_getD,i2] using this
theorem spec_book(t:List T1)(a b c:Int)(o:List Int)(d:Bool)(g:List G1)(f q:List Int)(z1:t.length≤1048576)(zs:∀y∈t,y.f0.size≤1048576)(z2:o.length≤1048576)(z3:g.length≤1048576)(z4:f.length≤1048576)(z5:q.length≤1048576):
    Ev (fun k=>spec_BookOk.f k t a b c o d g f q) (bookB t a b c o g f q):=by
  have hj:Ev (fun k=>spec_BookOk.j0 k true t a b c o d g f q) false:=Ev.step (fun k=>spec_BookOk.j0.eq_2 ..) (Ev.pos rfl (Ev.now _))
  unfold spec_BookOk.f bookB
  refine Ev.bind (spec_field t z1 zs) ?_
  cases fieldB t with
  |false=>exact Ev.neg (by simp) hj
  |true=>
    rw[Bool.true_and]
    refine Ev.pos rfl (Ev.bind (spec_rules a b c o d (by omega)) ?_)
    cases rulesB a b c o with
    |false=>exact Ev.neg (by simp) hj
    |true=>
      rw[Bool.true_and]
      refine Ev.pos rfl (Ev.bind (spec_season _ g (by omega) (by omega) z3) ?_)
      cases seasonB (t.length:Int) g with
      |false=>exact Ev.neg (by simp) hj
      |true=>
        rw[Bool.true_and]
        refine Ev.pos rfl ?_
        by_cases c1:(f.length:Int)=(t.length:Int)
        · rw[decide_eq_true c1,Bool.true_and]
          refine Ev.pos c1 ?_
          by_cases c2:(q.length:Int)=(t.length:Int)
          · rw[decide_eq_true c2,Bool.true_and]
            refine Ev.step (fun k=>spec_BookOk.j0.eq_2 ..) (Ev.neg (by simp [c2]) ?_)
            rw[←all_two f q t.length (by omega) (by omega)]
            have:=Ev.all (fun i k=>spec_BookOk.l0 k (t.length:Int) (i:Int) t a b c o d g f q) (List.range t.length) (fun i=>penB (f.getD i 0)&&penB (q.getD i 0)) true (fun i h ht r hr=>by
              simp only[List.length_range]at h
              simp only[List.getElem_range,Bool.and_eq_true]at ht
              refine Ev.step (fun k=>spec_BookOk.l0.eq_2 ..) (Ev.pos (by omega) (Ev.pos (by omega) (Ev.pos (by omega) ?_)))
              rw[rd_D (show i<f.length by omega),rd_D (show i<q.length by omega)]
              refine Ev.bind0 (spec_in _ _ _) (Ev.pos ht.1 (Ev.pos (by omega) (Ev.bind0 (spec_in _ _ _) (Ev.pos ht.2 ?_))))
              rw[w64s (by omega)];exact hr) (fun i h ht=>by
              simp only[List.length_range]at h
              simp only[List.getElem_range]at ht
              refine Ev.step (fun k=>spec_BookOk.l0.eq_2 ..) (Ev.pos (by omega) (Ev.pos (by omega) (Ev.pos (by omega) ?_)))
              rw[rd_D (show i<f.length by omega),rd_D (show i<q.length by omega)]
              refine Ev.bind0 (spec_in _ _ _) ?_
              cases hp:penB (f.getD i 0)with
              |false=>exact Ev.neg (fun e=>by unfold penB at hp;rw[hp]at e;cases e) (Ev.now _)
              |true=>
                rw[hp,Bool.true_and]at ht
                exact Ev.pos hp (Ev.pos (by omega) (Ev.bind0 (spec_in _ _ _) (Ev.neg (fun e=>by unfold penB at ht;rw[ht]at e;cases e) (Ev.now _))))) (by
              rw[List.length_range]
              exact Ev.step (fun k=>spec_BookOk.l0.eq_2 ..) (Ev.neg (by omega) (Ev.now _)))
            simpa using this
          · rw[decide_eq_false c2,Bool.false_and,Bool.and_false]
            rw[show((q.length:Int) != (t.length:Int))=true from bne_iff_ne.mpr c2]
            exact hj
        · rw[decide_eq_false c1,Bool.false_and,Bool.false_and]
          exact Ev.neg c1 hj
end Go.Proofs.YtgalpgakdcfilaaGreat.L
