/- What the laws' helpers on rows of numbers tell (measured). No condition beyond sizes. -/
import Derived.Test.YtgalpgakdcfilaaGreatPK
import Derived.Test.YtgalpgakdcfilaaGreatL1
namespace Go.Proofs.YtgalpgakdcfilaaGreat.L
set_option linter.unusedVariables false
set_option linter.unusedSimpArgs false
open Go.RowKit Go.Proofs.YtgalpgakdcfilaaGreatW.PrintWords Go.Proofs.YtgalpgakdcfilaaGreat.PK
theorem szIntS_le(l:List Int)(a r:Int)(ha:0≤a)(ha2:a≤4611686018427387904)(hl:l.length≤maxLen)(h:laws_szIntS.f l a=some r):(r= -1)∨(r=a-l.length∧(l.length:Int)≤a):=by
  unfold maxLen at hl
  simp only[laws_szIntS.f]at h
  rw[w64 (by omega) (by omega)]at h
  by_cases c:a-(l.length:Int)<0
  · rw[if_pos c]at h;left;injection h with h;exact h.symm
  · rw[if_neg c]at h;right;injection h with h;exact⟨h.symm,by omega⟩
theorem szIntS_some(l:List Int)(a:Int):∃r,laws_szIntS.f l a=some r:=by
  simp only[laws_szIntS.f];split<;>exact⟨_,rfl⟩
end Go.Proofs.YtgalpgakdcfilaaGreat.L
