/- The value of a flow, by the program. No condition beyond sizes. -/
import Derived.Test.YtgalpgakdcfilaaGreatNetA0
import Derived.Test.YtgalpgakdcfilaaGreatL57
namespace Go.Proofs.YtgalpgakdcfilaaGreat.L
set_option linter.unusedVariables false
set_option linter.unusedSimpArgs false
open Go.RowKit Go.Proofs.YtgalpgakdcfilaaGreatW.PrintWords Go.Proofs.YtgalpgakdcfilaaGreat.PK
def fv1(v:Int)(s:Int)(x:P1×Int):Int:=if x.1.f1=v then wrap64 ((if x.1.f0=v then wrap64 (s+x.2)else s)-x.2)else(if x.1.f0=v then wrap64 (s+x.2)else s)
def flowV(w:List P1)(v:Int)(f:List Int):Int:=(w.zip f).foldl (fv1 v) 0
theorem zip_get{α β:Type}{a:List α}{b:List β}{i:Nat}(h:i<(a.zip b).length)(ha:i<a.length)(hb:i<b.length):(a.zip b)[i]=(a[i],b[i]):=by simp
theorem mn_nat(a b:Nat):mn (a:Int) (b:Int)=((min a b:Nat):Int):=by unfold mn;omega
theorem impl_flowV(n:Int)(w:List P1)(v:Int)(f:List Int)(hw:w.length≤1099511627776)(hf:f.length≤1099511627776):Ev (fun k=>impl_FlowValue.f k n w v f) (flowV w v f):=by
  simp only[impl_FlowValue.f]
  rw[mn_nat]
  refine Ev.fold (fun i s k=>impl_FlowValue.l0 k v f s ((min w.length f.length:Nat):Int) (i:Int) n w) (w.zip f) (fv1 v) (fun _ _=>True) (fun s=>s) (fun _ _ _ _=>trivial) (fun i s hi _ r h=>?_) (fun s _=>?_) 0 trivial
  · have h1:i<w.length:=by simp at hi;omega
    have h2:i<f.length:=by simp at hi;omega
    rw[zip_get hi h1 h2]at h
    refine Ev.step (fun k=>impl_FlowValue.l0.eq_2 ..) (Ev.pos (by omega) (Ev.pos (by omega) (Ev.pos (by omega) ?_)))
    rw[rd1_nat h1,rd_nat h2,w64s (by omega)]
    simp only[fv1]at h
    by_cases c0:w[i].f0=v
    · refine Ev.pos c0 (Ev.pos (by omega) ?_)
      rw[if_pos c0]at h
      by_cases c1:w[i].f1=v
      · rw[if_pos c1]at h;exact Ev.pos c1 h
      · rw[if_neg c1]at h;exact Ev.neg c1 h
    · refine Ev.neg c0 ?_
      rw[if_neg c0]at h
      by_cases c1:w[i].f1=v
      · rw[if_pos c1]at h;exact Ev.pos c1 (Ev.pos (by omega) h)
      · rw[if_neg c1]at h;exact Ev.neg c1 h
  · refine Ev.step (fun k=>impl_FlowValue.l0.eq_2 ..) (Ev.neg (by rw[List.length_zip];omega) (Ev.now _))
theorem fv1_plain(v s x:Int)(p:P1)(hne:p.f0≠p.f1)(hs: -1000000≤s∧s≤1000000)(hx:0≤x∧x≤1000):fv1 v s (p,x)=s+(if p.f0=v then x else 0)-(if p.f1=v then x else 0):=by
  unfold fv1
  simp only
  by_cases c1:p.f1=v
  · rw[if_pos c1,if_pos c1,if_neg (by omega),if_neg (by omega),w64 (by omega) (by omega)];omega
  · rw[if_neg c1,if_neg c1]
    by_cases c0:p.f0=v
    · rw[if_pos c0,if_pos c0,w64 (by omega) (by omega)];omega
    · rw[if_neg c0,if_neg c0];omega
end Go.Proofs.YtgalpgakdcfilaaGreat.L
