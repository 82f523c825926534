/- More loops over rows: one that looks for a first element, one that goes on behind another. No condition. -/
import Derived.Test.YtgalpgakdcfilaaGreatPK
namespace Go.Proofs.YtgalpgakdcfilaaGreat.PK
set_option linter.unusedVariables false
set_option linter.unusedSimpArgs false
open Go.RowKit Go.Proofs.YtgalpgakdcfilaaGreatW.PrintWords
theorem Ev.anyK{α β:Type}(F:Nat→Nat→Option β)(xs:List α)(t:α→Bool)(r0 r1:β)(hT:∀i (h:i<xs.length),t xs[i]=true→Ev (F i) r0)(hF:∀i (h:i<xs.length),t xs[i]=false→∀r,Ev (F (i+1)) r→Ev (F i) r)(he:Ev (F xs.length) r1):Ev (F 0) (if xs.any t then r0 else r1):=by
  have:=down (g:=fun i=>Ev (F i) (if(xs.drop i).any t then r0 else r1)) (n:=xs.length) (fun i hi h=>by
    rw[List.drop_eq_getElem_cons hi,List.any_cons]
    rcases ht:t xs[i]with _|_
    · rw[Bool.false_or];exact hF i hi ht _ h
    · exact hT i hi ht) (by simpa using he) xs.length 0 (by omega)
  simpa using this
theorem Ev.first{α:Type}(F:Nat→Nat→Option Int)(xs:List α)(t:α→Bool)(hF:∀i (h:i<xs.length),t xs[i]=false→∀r,Ev (F (i+1)) r→Ev (F i) r)(hT:∀i (h:i<xs.length),t xs[i]=true→Ev (F i) (i:Int))(he:Ev (F xs.length) (-1)):
    ∃r:Int,Ev (F 0) r∧((r= -1∧∀j (h:j<xs.length),t xs[j]=false)∨∃m,∃hm:m<xs.length,r=(m:Int)∧t xs[m]=true∧∀j (h:j<xs.length),j<m→t xs[j]=false):=by
  have:=down (g:=fun i=>∃r:Int,Ev (F i) r∧((r= -1∧∀j (h:j<xs.length),i≤j→t xs[j]=false)∨∃m,∃hm:m<xs.length,r=(m:Int)∧t xs[m]=true∧∀j (h:j<xs.length),i≤j→j<m→t xs[j]=false)) (n:=xs.length) (fun i hi hn=>by
    rcases ht:t xs[i]with _|_
    · obtain⟨r,h1,h2⟩:=hn
      refine⟨r,hF i hi ht _ h1,?_⟩
      rcases h2 with ⟨e,ha⟩|⟨m,hm,e,h4,ha⟩
      · refine .inl ⟨e,fun j hj hij=>?_⟩
        by_cases c:j=i
        · subst c;exact ht
        · exact ha j hj (by omega)
      · refine .inr ⟨m,hm,e,h4,fun j hj hij hjm=>?_⟩
        by_cases c:j=i
        · subst c;exact ht
        · exact ha j hj (by omega) hjm
    · exact⟨(i:Int),hT i hi ht,.inr ⟨i,hi,rfl,ht,fun j _ h1 h2=>by omega⟩⟩) ⟨-1,he,.inl ⟨rfl,fun j hj hij=>by omega⟩⟩ xs.length 0 (by omega)
  obtain⟨r,h1,h2⟩:=this
  refine⟨r,h1,?_⟩
  rcases h2 with ⟨e,ha⟩|⟨m,hm,e,h4,ha⟩
  · exact .inl ⟨e,fun j hj=>ha j hj (by omega)⟩
  · exact .inr ⟨m,hm,e,h4,fun j hj hjm=>ha j hj (by omega) hjm⟩
theorem any_take{α:Type}(xs:List α)(t:α→Bool)(i:Nat)(hi:i≤xs.length):(xs.take i).any t=true↔∃j,∃h:j<xs.length,j<i∧t xs[j]=true:=by
  rw[List.any_eq_true]
  constructor
  · rintro⟨x,hx,ht⟩
    obtain⟨j,hj,rfl⟩:=List.mem_iff_getElem.1 hx
    rw[List.length_take]at hj
    rw[List.getElem_take]at ht
    exact⟨j,by omega,by omega,ht⟩
  · rintro⟨j,h,hj,ht⟩
    refine⟨xs[j],?_,ht⟩
    rw[List.mem_iff_getElem]
    exact⟨j,by rw[List.length_take];omega,by rw[List.getElem_take]⟩
end Go.Proofs.YtgalpgakdcfilaaGreat.PK
