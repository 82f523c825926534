/- Loops that look for a number in a row, and loops that compare two rows. No condition beyond sizes. -/
import Derived.Test.YtgalpgakdcfilaaGreatPK
namespace Go.Proofs.YtgalpgakdcfilaaGreat.PK
set_option linter.unusedVariables false
set_option linter.unusedSimpArgs false
open Go.RowKit Go.Proofs.YtgalpgakdcfilaaGreatW.PrintWords
theorem Ev.some_{α:Type}(F:Nat→Nat→Option Bool)(xs:List α)(t:α→Bool)(hF:∀i (h:i<xs.length),t xs[i]=false→∀r,Ev (F (i+1)) r→Ev (F i) r)(hT:∀i (h:i<xs.length),t xs[i]=true→Ev (F i) true)(he:Ev (F xs.length) false):Ev (F 0) (xs.any t):=by
  have:=down (g:=fun i=>Ev (F i) ((xs.drop i).any t)) (n:=xs.length) (fun i hi h=>by
    rw[List.drop_eq_getElem_cons hi,List.any_cons]
    rcases ht:t xs[i]with _|_
    · rw[Bool.false_or];exact hF i hi ht _ h
    · exact hT i hi ht) (by simpa using he) xs.length 0 (by omega)
  simpa using this
theorem Ev.place{α:Type}(F:Nat→Nat→Option Int)(xs:List α)(t:α→Bool)(hF:∀i (h:i<xs.length),t xs[i]=false→∀r,Ev (F (i+1)) r→Ev (F i) r)(hT:∀i (h:i<xs.length),t xs[i]=true→Ev (F i) (i:Int))(he:Ev (F xs.length) (-1)):∃r:Int,Ev (F 0) r∧decide (r≥0)=xs.any t:=by
  have:=down (g:=fun i=>∃r:Int,Ev (F i) r∧decide (r≥0)=(xs.drop i).any t) (n:=xs.length) (fun i hi h=>by
    rw[List.drop_eq_getElem_cons hi,List.any_cons]
    rcases ht:t xs[i]with _|_
    · obtain⟨r,h1,h2⟩:=h
      exact⟨r,hF i hi ht _ h1,by rw[Bool.false_or];exact h2⟩
    · exact⟨i,hT i hi ht,by simp⟩) ⟨-1,he,by simp⟩ xs.length 0 (by omega)
  simpa using this
theorem Ev.rows{α:Type}[DecidableEq α](F:Nat→Nat→Option Bool)(a b:List α)(hl:a.length=b.length)(hT:∀i (h:i<a.length) (h':i<b.length),a[i]=b[i]→∀r,Ev (F (i+1)) r→Ev (F i) r)(hF:∀i (h:i<a.length) (h':i<b.length),a[i]≠b[i]→Ev (F i) false)(he:Ev (F a.length) true):Ev (F 0) (decide (a=b)):=by
  have:=down (g:=fun i=>Ev (F i) (decide (a.drop i=b.drop i))) (n:=a.length) (fun i hi h=>by
    have hi':i<b.length:=by omega
    rw[List.drop_eq_getElem_cons hi,List.drop_eq_getElem_cons hi']
    by_cases c:a[i]=b[i]
    · have e:decide (a[i]::a.drop (i+1)=b[i]::b.drop (i+1))=decide (a.drop (i+1)=b.drop (i+1)):=decide_eq_decide.2 ⟨fun q=>(List.cons.inj q).2,fun q=>by rw[c,q]⟩
      rw[e];exact hT i hi hi' c _ h
    · have:=hF i hi hi' c
      have e:decide (a[i]::a.drop (i+1)=b[i]::b.drop (i+1))=false:=decide_eq_false (fun q=>c (List.cons.inj q).1)
      rw[e];exact this) (by simpa [hl] using he) a.length 0 (by omega)
  simpa using this
end Go.Proofs.YtgalpgakdcfilaaGreat.PK
