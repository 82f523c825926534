/- Small facts on numbers, lists and rounds for the laws' pure parts. No condition. -/
import Derived.Test.YtgalpgakdcfilaaGreatV
namespace Go.Proofs.YtgalpgakdcfilaaGreat.PK
set_option linter.unusedVariables false
set_option linter.unusedSimpArgs false
open Go.RowKit Go.Proofs.YtgalpgakdcfilaaGreatW.PrintWords
theorem w64{n:Int}(h1: -9223372036854775808≤n)(h2:n≤9223372036854775807):wrap64 n=n:=by unfold wrap64;omega
theorem w64s{i:Nat}(h:i<9223372036854775807):wrap64 ((i:Int)+1)=((i+1:Nat):Int):=by rw[w64 (by omega) (by omega)];omega
theorem rd_nat{x:List Int}{i:Nat}(h:i<x.length):rd x (i:Int)=x[i]:=by simp [rd,List.getD_eq_getElem?_getD,h]
theorem rdOf_nat{α:Type}{d:α}{x:List α}{i:Nat}(h:i<x.length):rdOf d x (i:Int)=x[i]:=by simp [rdOf,List.getD_eq_getElem?_getD,h]
set_option linter.unusedVariables false
theorem down{g:Nat→Prop}{n:Nat}(hs:∀i,i<n→g (i+1)→g i)(hn:g n):∀d i,i+d=n→g i
  |0,i,h=>by
    obtain rfl:i=n:=by omega
    exact hn
  |d+1,i,h=>hs i (by omega) (down hs hn d (i+1) (by omega))
theorem Ev.iter{β:Type}(F:Nat→Nat→Option β)(n:Nat)(r:β)(hs:∀i,i<n→Ev (F (i+1)) r→Ev (F i) r)(hn:Ev (F n) r):Ev (F 0) r:=
  down (g:=fun i=>Ev (F i) r) hs hn n 0 (by omega)
theorem Ev.bind0{α β:Type}{o:Option α}{f:Nat→α→Option β}{a:α}{r:β}(h:o=some a)(k:Ev (fun n=>f n a) r):Ev (fun n=>o.bind (f n)) r:=by
  subst h;exact k
theorem Ev.pos{β:Type}{c:Prop}[Decidable c]{f g:Nat→Option β}{r:β}(h:c)(k:Ev f r):Ev (fun n=>if c then f n else g n) r:=by
  simp only[if_pos h];exact k
theorem Ev.neg{β:Type}{c:Prop}[Decidable c]{f g:Nat→Option β}{r:β}(h:¬c)(k:Ev g r):Ev (fun n=>if c then f n else g n) r:=by
  simp only[if_neg h];exact k
theorem Ev.all{α:Type}(F:Nat→Nat→Option Bool)(xs:List α)(t:α→Bool)(e:Bool)(hT:∀i (h:i<xs.length),t xs[i]=true→∀r,Ev (F (i+1)) r→Ev (F i) r)(hF:∀i (h:i<xs.length),t xs[i]=false→Ev (F i) false)(he:Ev (F xs.length) e):Ev (F 0) (xs.all t&&e):=by
  have:=down (g:=fun i=>Ev (F i) ((xs.drop i).all t&&e)) (n:=xs.length) (fun i hi h=>by
    rw[List.drop_eq_getElem_cons hi,List.all_cons]
    rcases ht:t xs[i]with _|_
    · exact hF i hi ht
    · rw[Bool.true_and];exact hT i hi ht _ h) (by simpa using he) xs.length 0 (by omega)
  simpa using this
theorem Ev.fold{α σ β:Type}(G:Nat→σ→Nat→Option β)(xs:List α)(f:σ→α→σ)(inv:Nat→σ→Prop)(out:σ→β)(hi:∀i s (h:i<xs.length),inv i s→inv (i+1) (f s xs[i]))(hs:∀i s (h:i<xs.length),inv i s→∀r,Ev (G (i+1) (f s xs[i])) r→Ev (G i s) r)(he:∀s,inv xs.length s→Ev (G xs.length s) (out s))(s0:σ)(h0:inv 0 s0):Ev (G 0 s0) (out (xs.foldl f s0)):=by
  have:=down (g:=fun i=>∀s,inv i s→Ev (G i s) (out ((xs.drop i).foldl f s))) (n:=xs.length) (fun i hl h s hv=>by
    rw[List.drop_eq_getElem_cons hl,List.foldl_cons]
    exact hs i s hl hv _ (h _ (hi i s hl hv))) (fun s hv=>by simpa using he s hv) xs.length 0 (by omega) s0 h0
  simpa using this
theorem bnot_ne_self{b:Bool}:¬((b != b)=true):=by simp
def marks(q:Int)(n:Nat):List Int:=(List.range n).map fun(i:Nat)=>q+(i:Int)
theorem marks_length(q:Int)(n:Nat):(marks q n).length=n:=by simp [marks]
theorem marks_get(q:Int)(n i:Nat)(h:i<n)(h':i<(marks q n).length):(marks q n)[i]=q+i:=by simp [marks]
theorem marks_succ(q:Int)(n:Nat):marks q (n+1)=marks q n++[q+n]:=by simp [marks,List.range_succ]
theorem set_mid{α:Type}(a:List α)(x v:α)(b:List α)(n:Nat)(h:a.length=n):(a++x::b).set n v=(a++[v])++b:=by
  subst h;simp
theorem set_step{α:Type}(a l:List α)(n:Nat)(v:α)(ha:a.length=n)(hn:n<l.length):(a++l.drop n).set n v=(a++[v])++l.drop (n+1):=by
  rw[List.drop_eq_getElem_cons hn];exact set_mid a _ v _ n ha
theorem take_snoc{α:Type}(l:List α)(n:Nat)(hn:n<l.length):l.take (n+1)=l.take n++[l[n]]:=by
  rw[List.take_succ_eq_append_getElem hn]
end Go.Proofs.YtgalpgakdcfilaaGreat.PK
