/-
  How an argument of a law, of whatever type (numbers, bools, strings, structs, slices of these), reads as a Lean value of its kind.
  Its conditions: none beyond those of the row.
-/
import Derived.Test.YtgalpgakdcfilaaGreatV
import Derived.ChangeSlices
import Derived.ChangeArms
import Derived.ChangeSame
import Derived.Deep.Slices
namespace Go.Proofs.YtgalpgakdcfilaaGreat.Opens
open Go.RowKit Go.Proofs.YtgalpgakdcfilaaGreatW.PrintWords Go.ChangeShapes Go.WideShapes Go.Deep
set_option linter.unusedVariables false
def Opens{α:Type}(P:Program)(t:TypeId)(d:Kd α)(Q:α→Prop):Prop:=
  ∀(H:Type) (enc:TypeId×Value→H) (w:World) (base:Nat) (spare:Nat→Bool) (held:Bool) (fuel:Nat) (cs:List Value) (x:DataW H×List MemPlace),
    DataW.trod enc P w base spare held fuel t cs=some x→∃a:α,d.K w a cs∧Q a
theorem int_{P:Program}{t:TypeId}{k:IntKind}(hu:P.underlying t=some (.int k)):Opens P t (Kd.int k) (fun n=>(Lit.int k n).wf=true):=by
  intro H enc w base spare held fuel cs x h
  obtain⟨n,rfl,_,hw⟩:=DataW.trod_int hu h
  exact⟨n,rfl,hw⟩
theorem bool_{P:Program}{t:TypeId}(hu:P.underlying t=some .bool):Opens P t Kd.bool (fun _=>True):=by
  intro H enc w base spare held fuel cs x h
  obtain⟨n,rfl,_⟩:=DataW.trod_bool hu h
  exact⟨n,rfl,trivial⟩
theorem string_{P:Program}{t:TypeId}(hu:P.underlying t=some .string):Opens P t Kd.string (fun s=>s.size≤maxLen):=by
  intro H enc w base spare held fuel cs x h
  obtain⟨n,rfl,_,hs⟩:=DataW.trod_string hu h
  exact⟨n,rfl,hs⟩
theorem slice_{α:Type}{P:Program}{t e:TypeId}{d:Kd α}{Q:α→Prop}(hu:P.underlying t=some (.slice e))(hc:P.cellsOf e=d.sz)(hE:Opens P e d Q):
    Opens P t (Kd.slice e d) (fun l=>l.length≤maxLen∧∀x∈l,Q x):=by
  intro H enc w base spare held fuel cs x h
  rcases open_slice hu h with ⟨rfl,_⟩|⟨a,len,cap,m,n,D,Pl,rfl,hb,hl,hm,hmm,_,hx⟩
  · exact⟨[],⟨none,0,rfl,Nat.le_refl _,rfl,by simp,fun h=>absurd h (by simp)⟩,by simp,by simp⟩
  · have hlm:len≤m:=by rw[hmm];split<;>omega
    have key:∀n',n'≤len→∃l:List α,l.length=n'∧∀j p,l[j]? =some p→Q p∧∃c,c.length=d.sz∧d.K w p c∧∀i u,c[i]? =some u→w.cell? (a.add (j*d.sz+i))=some u:=by
      intro n'
      induction n' with
      |zero=>exact fun _=>⟨[],rfl,fun j p h=>by simp at h⟩
      |succ n' ih=>
        intro hn
        obtain⟨l,hll,hlp⟩:=ih (by omega)
        obtain⟨c,hc1,hc2⟩:=hx n' (by omega)
        obtain⟨p,hp,hq⟩:=hE _ _ _ _ _ _ _ _ _ hc2
        refine⟨l++[p],by simp [hll],fun j q hj=>?_⟩
        rcases Nat.lt_or_ge j n' with hjl|hjl
        · rw[List.getElem?_append_left (by omega)]at hj
          exact hlp j q hj
        · obtain rfl:j=n':=by
            have:=(List.getElem?_eq_some_iff.1 hj).1
            simp at this
            omega
          rw[List.getElem?_append_right (by omega),hll,Nat.sub_self]at hj
          obtain rfl:p=q:=by simpa using hj
          refine⟨hq,c,d.K_len hp,hp,fun i u hi=>?_⟩
          obtain⟨_,hlen,hcell⟩:=World.cells?_some hc1
          have h2:=hcell i (by rw[←hlen];exact(List.getElem?_eq_some_iff.1 hi).1)
          rw[hc,Deep.add_add]at h2
          rw[h2]
          exact hi
    obtain⟨l,hll,hlp⟩:=key len (Nat.le_refl _)
    have hlm2:l.length≤maxLen:=by omega
    refine⟨l,⟨some a,cap,by rw[hll],by omega,rfl,by simpa [maxLen] using hlm2,fun _=>⟨a,rfl,fun j p hj=>?_⟩⟩,hlm2,fun p hp=>?_⟩
    · exact(hlp j p hj).2
    · obtain⟨j,hj⟩:=List.getElem?_of_mem hp
      exact(hlp j p hj).1
def Fields{α:Type}(P:Program)(fs:List Field)(off:Nat)(d:Kd α)(Q:α→Prop):Prop:=
  ∀(H:Type) (enc:TypeId×Value→H) (w:World) (base:Nat) (spare:Nat→Bool) (held:Bool) (cs:List Value),cs.length=off+d.sz→
    (∀f∈fs,∃fuel x,DataW.trod enc P w base spare held fuel f.type ((cs.drop f.offset).take (P.cellsOf f.type))=some x)→∃a:α,d.K w a (cs.drop off)∧Q a
theorem last_{α:Type}{P:Program}{f:Field}{off:Nat}{d:Kd α}{Q:α→Prop}(ho:f.offset=off)(hc:P.cellsOf f.type=d.sz)(h:Opens P f.type d Q):Fields P [f] off d Q:=by
  intro H enc w base spare held cs hl hr
  obtain⟨fuel,x,hx⟩:=hr f (by simp)
  obtain⟨a,ha,hq⟩:=h _ _ _ _ _ _ _ _ _ hx
  refine⟨a,?_,hq⟩
  rw[ho,hc,List.take_of_length_le (by rw[List.length_drop];omega)]at ha
  exact ha
theorem more_{α β:Type}{P:Program}{f:Field}{fs:List Field}{off:Nat}{d:Kd α}{d2:Kd β}{Q:α→Prop}{Q2:β→Prop}(ho:f.offset=off)(hc:P.cellsOf f.type=d.sz)(h:Opens P f.type d Q)(h2:Fields P fs (off+d.sz) d2 Q2):
    Fields P (f::fs) off (Kd.pair d d2) (fun x=>Q x.1∧Q2 x.2):=by
  intro H enc w base spare held cs hl hr
  have hl':cs.length=off+(d.sz+d2.sz):=hl
  obtain⟨fuel,x,hx⟩:=hr f (by simp)
  obtain⟨a,ha,hq⟩:=h _ _ _ _ _ _ _ _ _ hx
  obtain⟨b,hb,hq2⟩:=h2 _ enc w base spare held cs (by omega) (fun f' hf'=>hr f' (by simp [hf']))
  refine⟨(a,b),⟨(cs.drop off).take d.sz,cs.drop (off+d.sz),?_,?_,hb⟩,hq,hq2⟩
  · rw[←List.drop_drop];exact(List.take_append_drop _ _).symm
  · rw[ho,hc]at ha
    exact ha
theorem struct_{α β:Type}{P:Program}{t:TypeId}{fs:Array Field}{d:Kd α}{Q:α→Prop}(f:β→α)(g:α→β)(hfg:∀a,f (g a)=a)(hu:P.underlying t=some (.struct fs))(hc:P.cellsOf t=d.sz)(h:Fields P fs.toList 0 d Q):
    Opens P t (Kd.iso d f) (fun x=>Q (f x)):=by
  intro H enc w base spare held fuel cs x hx
  obtain⟨xs,n,_,_,hl,hlen,hf⟩:=DataW.trod_struct hu hx
  obtain⟨a,ha,hq⟩:=h H enc w base spare held cs (by omega) (fun f' hf'=>by
    obtain⟨i,hi⟩:=List.getElem?_of_mem hf'
    rw[Array.getElem?_toList]at hi
    have h1:=hf i f' hi
    have h2:i<xs.length:=by
      rw[hlen]
      exact(Array.getElem?_eq_some_iff.1 hi).1
    rw[List.getElem?_eq_getElem h2]at h1
    exact⟨_,_,h1⟩)
  refine⟨g a,?_,by show Q (f (g a));rw[hfg];exact hq⟩
  show d.K w (f (g a)) cs
  rw[hfg]
  simpa using ha
theorem trod_{α:Type}{P:Program}{t:TypeId}{d:Kd α}{Q:α→Prop}(h:Opens P t d Q){H:Type}{enc:TypeId×Value→H}{w:World}{base:Nat}{spare:Nat→Bool}{held:Bool}{v:Value}{x:DataW H}{ps:List MemPlace}
    (hv:DataW.Trod enc P w base spare held t v x ps):∃a:α,d.K w a v.cells.toList∧Q a:=by
  obtain⟨fuel,hf⟩:=hv
  exact h _ _ _ _ _ _ _ _ _ hf
end Go.Proofs.YtgalpgakdcfilaaGreat.Opens
