-- Written by a program of this session (wip/xp.py).
import Derived.Test.YtgalpgakdcfilaaGreatProg
import Derived.Below
import Derived.Deep.Draws
import Derived.Deep.AppendLies
import Derived.Maps.AppendAt
import Derived.OwnWalk
import Derived.Laws.BytesArg
import Derived.Laws.MakeOwn
import Derived.Laws.OwnMore
import Derived.Deep.OwnRows
import Derived.Tactics
import Derived.Lib.ConvBytes
import Derived.Laws.Slices
import Derived.WalkKit
import Derived.KernelRfl
import Derived.RowKit3
import Derived.Deep.LoopGhost
import Derived.Deep.QuietTactic
import Derived.BigQuiet
import Derived.WideLaws
import Derived.Deep.DeepCutAuto
import Derived.Deep.CutBlock
import Derived.Deep.RegionHeld3
import Derived.Laws.Rows
import Derived.Lib.AppendStr
import Derived.ArgAppend
import Derived.Laws.IdiomCopy
import Derived.OrdersHeld
import Derived.Laws.BitsLemmas
import Derived.RowKit
import Derived.WalkSpells
import Derived.Test.YtgalpgakdcfilaaGreatV
namespace Go.Proofs.YtgalpgakdcfilaaGreat.L
open Go.RowKit Go.Proofs.YtgalpgakdcfilaaGreatW.PrintWords Go.Proofs.YtgalpgakdcfilaaGreatW.PrintLast Go.Proofs.YtgalpgakdcfilaaGreatW.PrintMore
attribute [local go_sem] max2_int min2_int max_two min_two max_three min_three max_four min_four
set_option linter.unusedVariables false
set_option linter.unusedSimpArgs false
set_option maxHeartbeats 8000000
set_option maxRecDepth 100000
def errW:Option Int→Value
  |none=>.nilIface
  |some c=>.iface 0 (.int .i64 c)
theorem errW_none:errW none=.nilIface:=rfl
theorem errW_some(c:Int):errW (some c)=.iface 0 (.int .i64 c):=rfl
theorem bs3{w W W1:World}{g:Nat}{a0 a1 a2:Value}(h:Below w.heap.size w W)(hg:w.heap.size≤g)(hw:W1=(((W.setCell ⟨g,0,none⟩ a0).setCell ⟨g,1,none⟩ a1).setCell ⟨g,2,none⟩ a2)):Below w.heap.size w W1:=by subst hw;exact(below_set (below_set (below_set h hg) hg) hg)
theorem bs5{w W W1:World}{g:Nat}{a0 a1 a2 a3 a4:Value}(h:Below w.heap.size w W)(hg:w.heap.size≤g)(hw:W1=(((((W.setCell ⟨g,0,none⟩ a0).setCell ⟨g,1,none⟩ a1).setCell ⟨g,2,none⟩ a2).setCell ⟨g,3,none⟩ a3).setCell ⟨g,4,none⟩ a4)):Below w.heap.size w W1:=by subst hw;exact(below_set (below_set (below_set (below_set (below_set h hg) hg) hg) hg) hg)
theorem bs9{w W W1:World}{g:Nat}{a0 a1 a2 a3 a4 a5 a6 a7 a8:Value}(h:Below w.heap.size w W)(hg:w.heap.size≤g)(hw:W1=(((((((((W.setCell ⟨g,0,none⟩ a0).setCell ⟨g,1,none⟩ a1).setCell ⟨g,2,none⟩ a2).setCell ⟨g,3,none⟩ a3).setCell ⟨g,4,none⟩ a4).setCell ⟨g,5,none⟩ a5).setCell ⟨g,6,none⟩ a6).setCell ⟨g,7,none⟩ a7).setCell ⟨g,8,none⟩ a8)):Below w.heap.size w W1:=by subst hw;exact(below_set (below_set (below_set (below_set (below_set (below_set (below_set (below_set (below_set h hg) hg) hg) hg) hg) hg) hg) hg) hg)
theorem pt3{W W1:World}{g:Nat}{t:TypeId}{a0 a1 a2 b0 b1 b2:Value}(h:W.heap[g]? =some (.cells #[b0,b1,b2] t (0,0)))(hw:W1=(((W.setCell ⟨g,0,none⟩ a0).setCell ⟨g,1,none⟩ a1).setCell ⟨g,2,none⟩ a2)):W1.heap[g]? =some (.cells #[a0,a1,a2] t (0,0)):=by subst hw;exact(blk_put (cs':=#[a0,a1,a2]) (blk_put (cs':=#[a0,a1,b2]) (blk_put (cs':=#[a0,b1,b2]) h 0 _ rfl) 1 _ rfl) 2 _ rfl)
theorem pt5{W W1:World}{g:Nat}{t:TypeId}{a0 a1 a2 a3 a4 b0 b1 b2 b3 b4:Value}(h:W.heap[g]? =some (.cells #[b0,b1,b2,b3,b4] t (0,0)))(hw:W1=(((((W.setCell ⟨g,0,none⟩ a0).setCell ⟨g,1,none⟩ a1).setCell ⟨g,2,none⟩ a2).setCell ⟨g,3,none⟩ a3).setCell ⟨g,4,none⟩ a4)):W1.heap[g]? =some (.cells #[a0,a1,a2,a3,a4] t (0,0)):=by subst hw;exact(blk_put (cs':=#[a0,a1,a2,a3,a4]) (blk_put (cs':=#[a0,a1,a2,a3,b4]) (blk_put (cs':=#[a0,a1,a2,b3,b4]) (blk_put (cs':=#[a0,a1,b2,b3,b4]) (blk_put (cs':=#[a0,b1,b2,b3,b4]) h 0 _ rfl) 1 _ rfl) 2 _ rfl) 3 _ rfl) 4 _ rfl)
theorem pt9{W W1:World}{g:Nat}{t:TypeId}{a0 a1 a2 a3 a4 a5 a6 a7 a8 b0 b1 b2 b3 b4 b5 b6 b7 b8:Value}(h:W.heap[g]? =some (.cells #[b0,b1,b2,b3,b4,b5,b6,b7,b8] t (0,0)))(hw:W1=(((((((((W.setCell ⟨g,0,none⟩ a0).setCell ⟨g,1,none⟩ a1).setCell ⟨g,2,none⟩ a2).setCell ⟨g,3,none⟩ a3).setCell ⟨g,4,none⟩ a4).setCell ⟨g,5,none⟩ a5).setCell ⟨g,6,none⟩ a6).setCell ⟨g,7,none⟩ a7).setCell ⟨g,8,none⟩ a8)):W1.heap[g]? =some (.cells #[a0,a1,a2,a3,a4,a5,a6,a7,a8] t (0,0)):=by subst hw;exact(blk_put (cs':=#[a0,a1,a2,a3,a4,a5,a6,a7,a8]) (blk_put (cs':=#[a0,a1,a2,a3,a4,a5,a6,a7,b8]) (blk_put (cs':=#[a0,a1,a2,a3,a4,a5,a6,b7,b8]) (blk_put (cs':=#[a0,a1,a2,a3,a4,a5,b6,b7,b8]) (blk_put (cs':=#[a0,a1,a2,a3,a4,b5,b6,b7,b8]) (blk_put (cs':=#[a0,a1,a2,a3,b4,b5,b6,b7,b8]) (blk_put (cs':=#[a0,a1,a2,b3,b4,b5,b6,b7,b8]) (blk_put (cs':=#[a0,a1,b2,b3,b4,b5,b6,b7,b8]) (blk_put (cs':=#[a0,b1,b2,b3,b4,b5,b6,b7,b8]) h 0 _ rfl) 1 _ rfl) 2 _ rfl) 3 _ rfl) 4 _ rfl) 5 _ rfl) 6 _ rfl) 7 _ rfl) 8 _ rfl)
theorem cf1{W:World}{g:Nat}{t:TypeId}{a0:Value}(h:W.heap[g]? =some (.cells #[a0] t (0,0))):W.cell? ⟨g,0,none⟩=some a0∧W.frozen? ⟨g,0,none⟩=false:=⟨blk_cell h 0,blk_frozen h 0⟩
theorem cf2{W:World}{g:Nat}{t:TypeId}{a0 a1:Value}(h:W.heap[g]? =some (.cells #[a0,a1] t (0,0))):W.cell? ⟨g,0,none⟩=some a0∧W.cell? ⟨g,1,none⟩=some a1∧W.frozen? ⟨g,0,none⟩=false∧W.frozen? ⟨g,1,none⟩=false:=⟨blk_cell h 0,blk_cell h 1,blk_frozen h 0,blk_frozen h 1⟩
theorem cf3{W:World}{g:Nat}{t:TypeId}{a0 a1 a2:Value}(h:W.heap[g]? =some (.cells #[a0,a1,a2] t (0,0))):W.cell? ⟨g,0,none⟩=some a0∧W.cell? ⟨g,1,none⟩=some a1∧W.cell? ⟨g,2,none⟩=some a2∧W.frozen? ⟨g,0,none⟩=false∧W.frozen? ⟨g,1,none⟩=false∧W.frozen? ⟨g,2,none⟩=false:=⟨blk_cell h 0,blk_cell h 1,blk_cell h 2,blk_frozen h 0,blk_frozen h 1,blk_frozen h 2⟩
theorem cf5{W:World}{g:Nat}{t:TypeId}{a0 a1 a2 a3 a4:Value}(h:W.heap[g]? =some (.cells #[a0,a1,a2,a3,a4] t (0,0))):W.cell? ⟨g,0,none⟩=some a0∧W.cell? ⟨g,1,none⟩=some a1∧W.cell? ⟨g,2,none⟩=some a2∧W.cell? ⟨g,3,none⟩=some a3∧W.cell? ⟨g,4,none⟩=some a4∧W.frozen? ⟨g,0,none⟩=false∧W.frozen? ⟨g,1,none⟩=false∧W.frozen? ⟨g,2,none⟩=false∧W.frozen? ⟨g,3,none⟩=false∧W.frozen? ⟨g,4,none⟩=false:=⟨blk_cell h 0,blk_cell h 1,blk_cell h 2,blk_cell h 3,blk_cell h 4,blk_frozen h 0,blk_frozen h 1,blk_frozen h 2,blk_frozen h 3,blk_frozen h 4⟩
theorem cf7{W:World}{g:Nat}{t:TypeId}{a0 a1 a2 a3 a4 a5 a6:Value}(h:W.heap[g]? =some (.cells #[a0,a1,a2,a3,a4,a5,a6] t (0,0))):W.cell? ⟨g,0,none⟩=some a0∧W.cell? ⟨g,1,none⟩=some a1∧W.cell? ⟨g,2,none⟩=some a2∧W.cell? ⟨g,3,none⟩=some a3∧W.cell? ⟨g,4,none⟩=some a4∧W.cell? ⟨g,5,none⟩=some a5∧W.cell? ⟨g,6,none⟩=some a6∧W.frozen? ⟨g,0,none⟩=false∧W.frozen? ⟨g,1,none⟩=false∧W.frozen? ⟨g,2,none⟩=false∧W.frozen? ⟨g,3,none⟩=false∧W.frozen? ⟨g,4,none⟩=false∧W.frozen? ⟨g,5,none⟩=false∧W.frozen? ⟨g,6,none⟩=false:=⟨blk_cell h 0,blk_cell h 1,blk_cell h 2,blk_cell h 3,blk_cell h 4,blk_cell h 5,blk_cell h 6,blk_frozen h 0,blk_frozen h 1,blk_frozen h 2,blk_frozen h 3,blk_frozen h 4,blk_frozen h 5,blk_frozen h 6⟩
theorem cf9{W:World}{g:Nat}{t:TypeId}{a0 a1 a2 a3 a4 a5 a6 a7 a8:Value}(h:W.heap[g]? =some (.cells #[a0,a1,a2,a3,a4,a5,a6,a7,a8] t (0,0))):W.cell? ⟨g,0,none⟩=some a0∧W.cell? ⟨g,1,none⟩=some a1∧W.cell? ⟨g,2,none⟩=some a2∧W.cell? ⟨g,3,none⟩=some a3∧W.cell? ⟨g,4,none⟩=some a4∧W.cell? ⟨g,5,none⟩=some a5∧W.cell? ⟨g,6,none⟩=some a6∧W.cell? ⟨g,7,none⟩=some a7∧W.cell? ⟨g,8,none⟩=some a8∧W.frozen? ⟨g,0,none⟩=false∧W.frozen? ⟨g,1,none⟩=false∧W.frozen? ⟨g,2,none⟩=false∧W.frozen? ⟨g,3,none⟩=false∧W.frozen? ⟨g,4,none⟩=false∧W.frozen? ⟨g,5,none⟩=false∧W.frozen? ⟨g,6,none⟩=false∧W.frozen? ⟨g,7,none⟩=false∧W.frozen? ⟨g,8,none⟩=false:=⟨blk_cell h 0,blk_cell h 1,blk_cell h 2,blk_cell h 3,blk_cell h 4,blk_cell h 5,blk_cell h 6,blk_cell h 7,blk_cell h 8,blk_frozen h 0,blk_frozen h 1,blk_frozen h 2,blk_frozen h 3,blk_frozen h 4,blk_frozen h 5,blk_frozen h 6,blk_frozen h 7,blk_frozen h 8⟩
theorem cc5{W:World}{g:Nat}{t:TypeId}{a0 a1 a2 a3 a4:Value}(h:W.heap[g]? =some (.cells #[a0,a1,a2,a3,a4] t (0,0))):W.cell? ⟨g,0,none⟩=some a0∧W.cell? ⟨g,1,none⟩=some a1∧W.cell? ⟨g,2,none⟩=some a2∧W.cell? ⟨g,3,none⟩=some a3∧W.cell? ⟨g,4,none⟩=some a4:=⟨blk_cell h 0,blk_cell h 1,blk_cell h 2,blk_cell h 3,blk_cell h 4⟩
theorem cc9{W:World}{g:Nat}{t:TypeId}{a0 a1 a2 a3 a4 a5 a6 a7 a8:Value}(h:W.heap[g]? =some (.cells #[a0,a1,a2,a3,a4,a5,a6,a7,a8] t (0,0))):W.cell? ⟨g,0,none⟩=some a0∧W.cell? ⟨g,1,none⟩=some a1∧W.cell? ⟨g,2,none⟩=some a2∧W.cell? ⟨g,3,none⟩=some a3∧W.cell? ⟨g,4,none⟩=some a4∧W.cell? ⟨g,5,none⟩=some a5∧W.cell? ⟨g,6,none⟩=some a6∧W.cell? ⟨g,7,none⟩=some a7∧W.cell? ⟨g,8,none⟩=some a8:=⟨blk_cell h 0,blk_cell h 1,blk_cell h 2,blk_cell h 3,blk_cell h 4,blk_cell h 5,blk_cell h 6,blk_cell h 7,blk_cell h 8⟩
theorem bel{B:Nat}{w w':World}(h:Below B w w':=by repeat (first|(with_reducible first|exact Aside0.out (by assumption)|apply below_alloc|apply pw_below_drewN|apply below_drew1|refine below_set ?_ (Aside0.out (by assumption)))|exact Aside0.out (by assumption))):Below B w w':=h
theorem bk{W W':World}{g:Nat}{o:Obj}(h:W.heap[g]? =some o)(k:W.heap[g]? =some o→W'.heap[g]? =some o:=by intro h;(with_reducible repeat (first|refine blk_drewN ?_ _|refine blk_drew ?_|refine blk_alloc ?_ _|(refine blk_far ?_ ?_ _;rotate_left;exact Aside0.out (by assumption))));exact h):W'.heap[g]? =some o:=k h
theorem bsz{w W:World}{b:Nat}(hg:b=W.heap.size)(h:Below w.heap.size w W:=by repeat (first|(with_reducible first|exact Aside0.out (by assumption)|apply below_alloc|apply pw_below_drewN|apply below_drew1|refine below_set ?_ (Aside0.out (by assumption)))|exact Aside0.out (by assumption))):w.heap.size≤b:=hg ▸ below_size h
theorem nlt{W W':World}{g b:Nat}{o:Obj}(hg:b=W'.heap.size)(h:W.heap[g]? =some o)(k:W.heap[g]? =some o→W'.heap[g]? =some o:=by intro h;(with_reducible repeat (first|refine blk_drewN ?_ _|refine blk_drew ?_|refine blk_alloc ?_ _|(refine blk_far ?_ ?_ _;rotate_left;exact Aside0.out (by assumption))));exact h):g≠b:=hg ▸ Nat.ne_of_lt (blk_lt (k h))
theorem ngt{W W':World}{g b:Nat}{o:Obj}(hg:b=W'.heap.size)(h:W.heap[g]? =some o)(k:W.heap[g]? =some o→W'.heap[g]? =some o:=by intro h;(with_reducible repeat (first|refine blk_drewN ?_ _|refine blk_drew ?_|refine blk_alloc ?_ _|(refine blk_far ?_ ?_ _;rotate_left;exact Aside0.out (by assumption))));exact h):b≠g:=hg ▸ Nat.ne_of_gt (blk_lt (k h))
theorem qk{p:Prop}(h:p:=by first|exact Kd.R_nil _ _ _ _ _|exact Kd.N_nil _ _ _ _ _|exact Kd.V_nil _ _ _ _ _|exact Kd.Q_nil _ _ _ _ _|exact Kd.S_nil _ _ _ _ _):p:=h
theorem qc{W:World}{g:Nat}{t:TypeId}{cs:Array Value}{v:Value}(h:Aside0 (W.heap[g]? =some (.cells cs t (0,0))))(i:Nat)(e:cs[i]? =some v:=by rfl):W.cell? ⟨g,i,none⟩=some v:=(blk_cell h.out i).trans e
theorem qn{W W':World}{g b:Nat}{o:Obj}(hg:b=W'.heap.size)(h:Aside0 (W.heap[g]? =some o))(k:W.heap[g]? =some o→W'.heap[g]? =some o:=by intro h;(with_reducible repeat (first|refine blk_drewN ?_ _|refine blk_drew ?_|refine blk_alloc ?_ _|(refine blk_far ?_ ?_ _;rotate_left;exact Aside0.out (by assumption))));exact h):Aside0 (g≠b)∧Aside0 (b≠g):=⟨⟨nlt hg h.out k⟩,⟨ngt hg h.out k⟩⟩
theorem qo{a b:Nat}(h:Aside0 (a≠b)):a≠b∧b≠a:=⟨h.out,h.out.symm⟩
theorem qj1{α:Type}{a b:α}(h:some a=some b):a=b:=Option.some.inj h
theorem qj2{T0 T1:Type}{a0 b0:T0}{a1 b1:T1}(h:some (a0,a1)=some (b0,b1)):a0=b0∧a1=b1:=by simpa only[Option.some.injEq,Prod.mk.injEq] using h
theorem qj3{T0 T1 T2:Type}{a0 b0:T0}{a1 b1:T1}{a2 b2:T2}(h:some (a0,a1,a2)=some (b0,b1,b2)):a0=b0∧a1=b1∧a2=b2:=by simpa only[Option.some.injEq,Prod.mk.injEq] using h
theorem qj4{T0 T1 T2 T3:Type}{a0 b0:T0}{a1 b1:T1}{a2 b2:T2}{a3 b3:T3}(h:some (a0,a1,a2,a3)=some (b0,b1,b2,b3)):a0=b0∧a1=b1∧a2=b2∧a3=b3:=by simpa only[Option.some.injEq,Prod.mk.injEq] using h
theorem qj5{T0 T1 T2 T3 T4:Type}{a0 b0:T0}{a1 b1:T1}{a2 b2:T2}{a3 b3:T3}{a4 b4:T4}(h:some (a0,a1,a2,a3,a4)=some (b0,b1,b2,b3,b4)):a0=b0∧a1=b1∧a2=b2∧a3=b3∧a4=b4:=by simpa only[Option.some.injEq,Prod.mk.injEq] using h
theorem qj6{T0 T1 T2 T3 T4 T5:Type}{a0 b0:T0}{a1 b1:T1}{a2 b2:T2}{a3 b3:T3}{a4 b4:T4}{a5 b5:T5}(h:some (a0,a1,a2,a3,a4,a5)=some (b0,b1,b2,b3,b4,b5)):a0=b0∧a1=b1∧a2=b2∧a3=b3∧a4=b4∧a5=b5:=by simpa only[Option.some.injEq,Prod.mk.injEq] using h
theorem qj7{T0 T1 T2 T3 T4 T5 T6:Type}{a0 b0:T0}{a1 b1:T1}{a2 b2:T2}{a3 b3:T3}{a4 b4:T4}{a5 b5:T5}{a6 b6:T6}(h:some (a0,a1,a2,a3,a4,a5,a6)=some (b0,b1,b2,b3,b4,b5,b6)):a0=b0∧a1=b1∧a2=b2∧a3=b3∧a4=b4∧a5=b5∧a6=b6:=by simpa only[Option.some.injEq,Prod.mk.injEq] using h
theorem qj9{T0 T1 T2 T3 T4 T5 T6 T7 T8:Type}{a0 b0:T0}{a1 b1:T1}{a2 b2:T2}{a3 b3:T3}{a4 b4:T4}{a5 b5:T5}{a6 b6:T6}{a7 b7:T7}{a8 b8:T8}(h:some (a0,a1,a2,a3,a4,a5,a6,a7,a8)=some (b0,b1,b2,b3,b4,b5,b6,b7,b8)):a0=b0∧a1=b1∧a2=b2∧a3=b3∧a4=b4∧a5=b5∧a6=b6∧a7=b7∧a8=b8:=by simpa only[Option.some.injEq,Prod.mk.injEq] using h
theorem qb(w:World):Aside0 (Below w.heap.size w w):=⟨Below.refl _ _⟩
theorem ga{p:Prop}(h:p:=by(try simp only[List.map_toArray,List.map_cons,List.map_nil]);first|done|rfl|(simp only[List.length_drop,List.length_take];rfl)):p:=h
theorem ck{α:Type}{d:Kd α}{W W':World}{A:Option Addr}{n:Nat}{xs:List α}(h:d.C W A n xs)(k:d.C W A n xs→d.C W' A n xs:=by intro h;repeat (first|exact h|(with_reducible refine Kd.C_alloc ?_ _)|(with_reducible refine Kd.C_drewN ?_ _)|(with_reducible refine Kd.C_drew ?_))):d.C W' A n xs:=k h
theorem rk{α:Type}{d:Kd α}{e:Nat}{W W':World}{base:Nat}{ok:Nat→Prop}{v:Value}{xs:List α}(h:d.R e W base ok v xs)(k:d.R e W base ok v xs→d.R e W' base ok v xs:=by intro h;(with_reducible repeat (first|apply Kd.R_alloc|apply Kd.R_drewN|apply Kd.R_drew));exact h):d.R e W' base ok v xs:=k h
theorem hcl{w W:World}{a:Addr}{v:Value}(hb:Below w.heap.size w W)(h:w.cell? a=some v):W.cell? a=some v:=(hb.cell (World.block_lt_of_cell? w _ h)).trans h
theorem er{p:Prop}(h:p:=by first|rfl|(simp [errW_none,errW_some]<;>rfl)|(simp [*,errW_none,errW_some]<;>rfl)):p:=h
theorem es{p:Prop}(h:p:=by first|rfl|(simp;done)|(simp [*];done)):p:=h
theorem asm{p:Prop}[Decidable p](h:decide p=true:=by first|(with_reducible assumption)|assumption):p:=of_decide_eq_true h
theorem nt{t:Bool}{a:Option Bool}(h:(if t=true then a else some false)=some true):t=true∧a=some true:=by cases t<;>simp_all
theorem nl{p:Prop}[Decidable p]{a:Option Bool}(h:(if p then some false else a)=some true):decide p=false∧a=some true:=by by_cases k:p<;>simp_all
theorem ne_{β:Type}[DecidableEq β]{x y:β}{a:Option Bool}(h:(if x=y then a else some false)=some true):(x==y)=true∧(x != y)=false∧a=some true:=by by_cases k:x=y<;>simp_all
theorem kept_blk{W W1:World}{S:Nat→Prop}{g:Nat}{o:Obj}(h:W.heap[g]? =some o)(hk:Kept W W1 S)(hn:¬S g):W1.heap[g]? =some o:=(hk.2 g (blk_lt h) hn).trans h
theorem rb{α:Type}{d:Kd α}{e:Nat}{W W' W1:World}{base:Nat}{ok:Nat→Prop}{v:Value}{xs:List α}(h:Aside0 (d.R e W base ok v xs))(hb:Below W'.heap.size W' W1)(k:d.R e W base ok v xs→d.R e W' base ok v xs:=by intro h;(with_reducible repeat (first|apply Kd.R_alloc|apply Kd.R_drewN|apply Kd.R_drew));exact h):Aside0 (d.R e W1 base ok v xs):=⟨Kd.R_below (k h.out) hb⟩
theorem rl{α:Type}{d:Kd α}{e:Nat}{W W':World}{base:Nat}{ok:Nat→Prop}{v:Value}{xs:List α}(h:Aside0 (d.R e W base ok v xs))(k:d.R e W base ok v xs→d.R e W' base ok v xs:=by intro h;(with_reducible repeat (first|apply Kd.R_alloc|apply Kd.R_drewN|apply Kd.R_drew));exact h):∀k,v.ownBlock=some k→k<W'.heap.size:=Kd.R_lt (k h.out)
theorem rd1{α:Type}{d:Kd α}{e:Nat}{W:World}{base:Nat}{ok:Nat→Prop}{v:Value}{xs:List α}(h:Aside0 (d.R e W base ok v xs)):Aside0 (d.R e W.drew base ok v xs):=⟨Kd.R_drew h.out⟩
theorem cr{α:Type}{d:Kd α}{e:Nat}{W W':World}{base n c:Nat}{ok:Nat→Prop}{A:Option Addr}{xs:List α}(h:Aside0 (d.R e W base ok (.slice A n c) xs))(k:d.C W A xs.length xs→d.C W' A xs.length xs:=by intro h;repeat (first|exact h|(with_reducible refine Kd.C_alloc ?_ _)|(with_reducible refine Kd.C_drewN ?_ _)|(with_reducible refine Kd.C_drew ?_))):d.C W' A xs.length xs:=k (Kd.R_reads' h.out).2.2
theorem am{p:Prop}(h:p):Aside0 p:=⟨h⟩
theorem bs{α β:Type}{e:α}{f:α→Option β}{b:β}(h:(some e).bind f=some b):∃y,Aside0 (y=e)∧f y=some b:=⟨e,⟨rfl⟩,h⟩
theorem hm{n:Nat}{W W1:World}(h:Aside0 (n≤W.heap.size))(hb:Below W.heap.size W W1):Aside0 (n≤W1.heap.size):=⟨Nat.le_trans h.out (below_size hb)⟩
theorem rc{α:Type}{d:Kd α}{e base:Nat}{W W':World}{ok:Nat→Prop}{A:Option Addr}{n c:Nat}{xs:List α}(h:Aside0 (d.R e W base ok (.slice A n c) xs))(k:d.R e W base ok (.slice A n c) xs→d.R e W' base ok (.slice A n c) xs:=by intro h;(with_reducible repeat (first|apply Kd.R_alloc|apply Kd.R_drewN|apply Kd.R_drew));exact h):d.C W' A xs.length xs:=(Kd.R_reads' (k h.out)).2.2
theorem rn{α:Type}{d:Kd α}{e base:Nat}{W:World}{ok:Nat→Prop}{A:Option Addr}{n c:Nat}{xs:List α}(h:Aside0 (d.R e W base ok (.slice A n c) xs)):n≤c:=(Kd.R_reads' h.out).2.1
theorem rt2{α:Type}{d:Kd α}{e base:Nat}{W W':World}{ok:Nat→Prop}{v:Value}{xs:List α}(h:Aside0 (d.R e W base ok v xs))(k:d.R e W base ok v xs→d.R e W' base ok v xs:=by intro h;(with_reducible repeat (first|apply Kd.R_alloc|apply Kd.R_drewN|apply Kd.R_drew));exact h)(hE:d.E= []:=by rfl):d.R e W' base (fun k=>some k=v.ownBlock∧ok k) v xs:=Kd.R_tight2 hE (k h.out)
theorem rs{α:Type}{d:Kd α}{e base n m:Nat}{W W' W1:World}{ok S:Nat→Prop}{v:Value}{xs:List α}(h:Aside0 (d.R e W base (fun k=>(n≤k∧k<m)∧ok k) v xs))(hk:Kept W' W1 S)(hS:∀k,S k→¬(n≤k∧k<m):=by intro k_ hp_ ho_;first|omega|(rcases hp_ with h_|h_|h_|h_|h_<;>(have p_:=h_.2.1;omega))|(rcases hp_ with h_|h_<;>(have p_:=h_.2.1;omega))|(rcases hp_ with h_|h_|h_<;>(have p_:=h_.2.1;omega))|(rcases hp_ with h_|h_|h_|h_<;>(have p_:=h_.2.1;omega)))(k:d.R e W base (fun k=>(n≤k∧k<m)∧ok k) v xs→d.R e W' base (fun k=>(n≤k∧k<m)∧ok k) v xs:=by intro h;(with_reducible repeat (first|apply Kd.R_alloc|apply Kd.R_drewN|apply Kd.R_drew));exact h):Aside0 (d.R e W1 base (fun k=>(n≤k∧k<m)∧ok k) v xs):=⟨Kd.R_step (k h.out) fun k ho hl=>hk.2 k hl fun hp=>hS k hp ho.1⟩
theorem kb{W W1:World}{g:Nat}{o:Obj}{S:Nat→Prop}(h:Aside0 (W.heap[g]? =some o))(hk:Kept W W1 S)(hS:¬S g:=by intro hp_;first|omega|(rcases hp_ with h_|h_|h_|h_|h_<;>(have p_:=h_.2.1;omega))|(rcases hp_ with h_|h_<;>(have p_:=h_.2.1;omega))|(rcases hp_ with h_|h_|h_<;>(have p_:=h_.2.1;omega))|(rcases hp_ with h_|h_|h_|h_<;>(have p_:=h_.2.1;omega))):Aside0 (W1.heap[g]? =some o):=⟨kept_blk h.out hk hS⟩
section
variable {P:Program} {ops:Array Oper} {rest:List Oper} {o:Oper} {a:Act} {Q:Exit→Act→World→Prop} {W w1:World}
theorem gs(t:TypeId)(p:Tmp){v:Operand}(h:wpList P ops Q (o::rest) a W)(_ho:o.op=.store t (.tmp p) v:=by rfl):wpList P ops Q (o::rest) a W:=h
theorem sv(t:TypeId)(p:Tmp){v:Operand}(h:∀w',w'=w1→wpList P ops Q rest a w')(_ho:o.op=.store t (.tmp p) v:=by rfl)(hg:o.guard=none:=by rfl)(hN:o.dst=none:=by rfl)(hr:(execOp a.eval o).run P W=.ok .skip w1:=by first|(go_simp;done)|(go_simp;rfl)):wpList P ops Q (o::rest) a W:=store_event hg _ho hN hr h
theorem bv(N:Tmp)(cs:Array Value)(t:TypeId)(h:∀g,g=W.heap.size→∀w1,w1.heap[g]? =some (.cells cs t (0,0))→Below W.heap.size W w1→wpList P ops Q rest (a.put o.dst (.pointer (some ⟨g,0,none⟩))) w1)(hd:o.dst=some N:=by with_reducible rfl)(hg:o.guard=none:=by rfl)(hr:(execOp a.eval o).run P W=.ok (.value (.pointer (some ⟨W.heap.size,0,none⟩))) (W.alloc (.cells cs t (0,0))):=by first|(go_simp;done)|(go_simp;rfl)):wpList P ops Q (o::rest) a W:=box_event hg hd hr h
end
theorem bm{α β:Type}{x:Option α}{f:α→Option β}{b:β}(h:x.bind f=some b):∃a,Aside0 (x=some a)∧f a=some b:=let ⟨a,p,q⟩:=Option.bind_eq_some_iff.mp h;⟨a,⟨p⟩,q⟩
theorem i0{c:Prop}[Decidable c]{α:Type}{a:Option α}{r:α}(h:(if c then a else none)=some r):decide c=true∧a=some r:=by by_cases k:c<;>simp_all
theorem i1{c:Prop}[Decidable c]{α:Type}{a b r:α}(h:(if c then a else b)=r):(decide c=true∧a=r)∨(decide c=false∧b=r):=by by_cases k:c<;>simp_all
theorem i2{c:Prop}[Decidable c]{α:Type}{a b r:α}(h:(if c then a else b)=r):(c∧a=r)∨(¬c∧b=r):=by by_cases k:c<;>simp_all
theorem ib{t:Bool}{α:Type}{a b r:α}(h:(if t=true then a else b)=r):(t=true∧a=r)∨(t=false∧b=r):=by cases t<;>simp_all
theorem ie{β:Type}[DecidableEq β]{x y:β}{α:Type}{a b r:α}(h:(if x=y then a else b)=r):((x==y)=true∧(x != y)=false∧a=r)∨((x≠y∧(x==y)=false∧(x != y)=true)∧b=r):=by by_cases k:x=y<;>simp_all
theorem ab{p:Prop}[Decidable p](h:decide p=true:=by first|(with_reducible assumption)|assumption):p=True:=eq_true (of_decide_eq_true h)
theorem cl{p:Prop}{w W:World}(hb:Below w.heap.size w W){a:Addr}{v:Value}(h:w.cell? a=some v):W.cell? a=some v:=(hb.cell (World.block_lt_of_cell? w _ h)).trans h
def lb:Nat→Nat→Array Bool:=fun n m=>((List.range n).map fun i=>m.testBit i).toArray
section
variable {P:Program} {ops:Array Oper} {rest:List Oper} {o:Oper} {a:Act} {Q:Exit→Act→World→Prop} {W:World}
theorem bx(w:World)(N:Tmp)(cs:Array Value)(t:TypeId)(h:∀g w1,Aside0 (w1.heap[g]? =some (.cells cs t (0,0)))→Aside0 (w.heap.size≤g)→Aside0 (Below w.heap.size w w1)→wpList P ops Q rest (a.put o.dst (.pointer (some ⟨g,0,none⟩))) w1)(hd:o.dst=some N:=by with_reducible rfl)(hg:o.guard=none:=by rfl)(hr:(execOp a.eval o).run P W=.ok (.value (.pointer (some ⟨W.heap.size,0,none⟩))) (W.alloc (.cells cs t (0,0))):=by first|(go_simp;done)|(go_simp;rfl))(hb:Below w.heap.size w W:=by repeat (first|(with_reducible first|exact Aside0.out (by assumption)|apply below_alloc|apply pw_below_drewN|apply below_drew1|refine below_set ?_ (Aside0.out (by assumption)))|exact Aside0.out (by assumption))):wpList P ops Q (o::rest) a W:=box_event hg hd hr fun g e w1 hx hy=>h g w1 ⟨hx⟩ ⟨e ▸ below_size hb⟩ ⟨below_step hb hy⟩
theorem by_(w:World)(N:Tmp)(cs:Array Value)(t:TypeId)(h:∀g,g=W.heap.size→∀w1,Aside0 (w1.heap[g]? =some (.cells cs t (0,0)))→Aside0 (w.heap.size≤g)→Below W.heap.size W w1→Aside0 (Below w.heap.size w w1)→wpList P ops Q rest (a.put o.dst (.pointer (some ⟨g,0,none⟩))) w1)(hd:o.dst=some N:=by with_reducible rfl)(hg:o.guard=none:=by rfl)(hr:(execOp a.eval o).run P W=.ok (.value (.pointer (some ⟨W.heap.size,0,none⟩))) (W.alloc (.cells cs t (0,0))):=by first|(go_simp;done)|(go_simp;rfl))(hb:Below w.heap.size w W:=by repeat (first|(with_reducible first|exact Aside0.out (by assumption)|apply below_alloc|apply pw_below_drewN|apply below_drew1|refine below_set ?_ (Aside0.out (by assumption)))|exact Aside0.out (by assumption))):wpList P ops Q (o::rest) a W:=box_event hg hd hr fun g e w1 hx hy=>h g e w1 ⟨hx⟩ ⟨e ▸ below_size hb⟩ hy ⟨below_step hb hy⟩
theorem gd(N:Tmp)(h:wpList P ops Q (o::rest) a W)(_hd:o.dst=some N:=by rfl):wpList P ops Q (o::rest) a W:=h
theorem gc(f:FuncId){az:Array Operand}{ts:Array TypeId}(h:wpList P ops Q (o::rest) a W)(_ho:o.op=.call {callee:=.value (.func f),args:=az,argTypes:=ts}:=by with_reducible rfl):wpList P ops Q (o::rest) a W:=h
theorem gl{f:FuncId}{fn:Func}{az:Array Operand}{ts:Array TypeId}{args:Array Value}{R:Ending→World→Prop}(N:Tmp)(hf:P.funcs[f]? =some fn)(c:Calls P f args W R)(h:∀e w',R e w'→∃v,e=.returned v∧wpList P ops Q rest (a.put (some N) v) w')(hop:o.op=.call {callee:=.value (.func f),args:=az,argTypes:=ts}:=by with_reducible rfl)(hd:o.dst=some N:=by rfl)(hg:o.guard=none:=by rfl)(hname:(fn.name== "runtime.NumGoroutine")=false:=by kernel_rfl)(hb:fn.body.isSome=true:=by rfl)(hargs:az.map a.eval=args:=by(try simp only[List.map_toArray,List.map_cons,List.map_nil]);first|done|rfl|(simp only[List.length_drop,List.length_take];rfl)):wpList P ops Q (o::rest) a W:=goesL_ _ hd hg hf hname hb args hop hargs (c.mono h)
end
theorem cm{P:Program}{f:FuncId}{args args':Array Value}{w:World}{R S:Ending→World→Prop}(c:Calls P f args w R)(h:∀e w',R e w'→S e w')(he:args=args':=by with_reducible rfl):Calls P f args' w S:=he ▸ (c.mono h)
theorem cm1{P:Program}{f:FuncId}{args args':Array Value}{w:World}{v:Value}{S:Ending→World→Prop}(c:Calls P f args w fun e w'=>e=.returned v∧Drawn0 w w')(h:∀n,S (.returned v) (w.drewN n))(he:args=args':=by with_reducible rfl):Calls P f args' w S:=he ▸ (c.mono fun e w' ⟨h1,n,h2⟩=>by subst h1 h2;exact h n)
theorem cm2{P:Program}{f:FuncId}{args args':Array Value}{w:World}{v:Value}{S:Ending→World→Prop}(c:Calls P f args w fun e w'=>e=.returned v∧Below w.heap.size w w')(h:∀w',Below w.heap.size w w'→S (.returned v) w')(he:args=args':=by with_reducible rfl):Calls P f args' w S:=he ▸ (c.mono fun e w' ⟨h1,h2⟩=>by subst h1;exact h w' h2)
theorem cb{α:Type}{d:Kd α}{w W W':World}{A:Option Addr}{n:Nat}{xs:List α}(h:Aside0 (d.C w A n xs))(hb:Aside0 (Below w.heap.size w W))(k:d.C W A n xs→d.C W' A n xs:=by intro h;repeat (first|exact h|(with_reducible refine Kd.C_alloc ?_ _)|(with_reducible refine Kd.C_drewN ?_ _)|(with_reducible refine Kd.C_drew ?_))):d.C W' A n xs:=k (Kd.C_below h.out hb.out)
theorem b1{W W' W1:World}{g:Nat}{o:Obj}(h:Aside0 (W.heap[g]? =some o))(hb:Below W'.heap.size W' W1)(k:W.heap[g]? =some o→W'.heap[g]? =some o:=by intro h;(with_reducible repeat (first|refine blk_drewN ?_ _|refine blk_drew ?_|refine blk_alloc ?_ _|(refine blk_far ?_ ?_ _;rotate_left;exact Aside0.out (by assumption))));exact h):Aside0 (W1.heap[g]? =some o):=⟨blk_below (k h.out) hb⟩
theorem b2{w W W1:World}(hb:Below W.heap.size W W1)(h:Below w.heap.size w W:=by repeat (first|(with_reducible first|exact Aside0.out (by assumption)|apply below_alloc|apply pw_below_drewN|apply below_drew1|refine below_set ?_ (Aside0.out (by assumption)))|exact Aside0.out (by assumption))):Aside0 (Below w.heap.size w W1):=⟨below_step h hb⟩
section
variable {P:Program} {md:Region.Mode} {ops:Array Oper} {S:World→Prop} {Q:Exit→Act→World→Prop} {T:Bool×List (List Nat×List Nat)} {B ds:List Nat} {fuel:Nat} {l:Array Bool} {a a':Act} {w:World} {oi:Oper} {v:Value}
theorem pu(HT:Aside0 (rtab md ops=T))(i N:Nat)(l':Array Bool)(h:wpAnyLast P md ops Q S ds fuel l' a' w)(hi:ops[i]? =some oi:=by rfl)(hN:oi.dst=some N:=by rfl)(hw:Region.wanted oi (yielded ops a.tmps)=true:=by rfl)(hy:∀w',(execOp a.eval oi).run P w'=.ok (.value v) w':=by intro w';go_simp;with_reducible rfl)(ha:a.put (some N) v=a':=by simp only[Act.put,List.setIfInBounds_toArray,List.set_cons_zero,List.set_cons_succ,i64_w,i32_w];rfl)(hc:anyT T l.toList l'.toList i=true:=by kernel_rfl)(hQ:∀c a w,Q (.panic c) (a.put oi.dst v) w→Q (.panic c) a w:=by exact fun _ _ _ h=>h):wpAnyLast P md ops Q S ds (fuel+1) l a w:=pure_ l' hi hN (any_of HT.out hc) hQ (Or.inl ⟨hw,hy⟩) ha h
theorem tk(HT:Aside0 (rtab md ops=T))(HW:Aside0 (waitsOk T.2 B=true))(hS:S w)(i N:Nat)(l':Array Bool)(h:wpAnyLast P md ops Q S ds fuel l' a' w)(hi:ops[i]? =some oi:=by rfl)(hN:oi.dst=some N:=by rfl)(hw:Region.wanted oi (yielded ops a.tmps)=true:=by rfl)(hy:∀w',S w'→(execOp a.eval oi).run P w'=.ok (.value v) w':=by intro w' hs;(repeat (have h_:=And.left hs;replace hs:=And.right hs));go_simp;with_reducible rfl)(ha:a.put (some N) v=a':=by simp only[Act.put,List.setIfInBounds_toArray,List.set_cons_zero,List.set_cons_succ,i64_w,i32_w];rfl)(hc:takeW T B ds l.toList l'.toList i=true:=by kernel_rfl)(hQ:∀c a w,Q (.panic c) (a.put oi.dst v) w→Q (.panic c) a w:=by exact fun _ _ _ h=>h):wpAnyLast P md ops Q S ds (fuel+1) l a w:=take_ l' hi hN (take_ofW HT.out HW.out hc) hQ (Or.inl ⟨hw,hy⟩) hS ha h
theorem nm{a0:Act}(N:Nat)(h:wpAnyLast P md ops Q S ds fuel l a' w)(ha:Act.put a0 (some N) v=a':=by simp only[Act.put,List.setIfInBounds_toArray,List.set_cons_zero,List.set_cons_succ,i64_w,i32_w];rfl):wpAnyLast P md ops Q S ds fuel l (Act.put a0 (some N) v) w:=norm_ ha h
theorem on(HT:Aside0 (rtab md ops=T))(i N:Nat)(l':Array Bool)(h:∀K:Act→World→Prop,Shut (∀a' w',S w'→(S w'→wpAnyLast P md ops Q S ds fuel l' a' w')→K a' w')→if Region.wanted oi (yielded ops a.tmps)=true then Oper.wp P oi a w K Q else K (a.put (some N) undef) w)(hi:ops[i]? =some oi:=by rfl)(hN:oi.dst=some N:=by rfl)(hd:i ∉ ds:=by decide)(hc:(readyT T.2 l.toList==[i]&&l.toList.set i true==l'.toList)=true:=by kernel_rfl):wpAnyLast P md ops Q S ds (fuel+1) l a w:=one_ l' hi hN (one_of HT.out hc) hd h
end
theorem bz{W W':World}{g:Nat}{t:TypeId}{cs c2 cs':Array Value}(h:Aside0 (W.heap[g]? =some (.cells cs t (0,0))))(k:W.heap[g]? =some (.cells cs t (0,0))→W'.heap[g]? =some (.cells c2 t (0,0)):=by intro h;(with_reducible repeat (first|refine blk_drewN ?_ _|refine blk_drew ?_|refine blk_alloc ?_ _|apply blk_set|apply blk_far));exact h;all_goals exact Aside0.out (by assumption))(e:c2=cs':=by first|(simp only[List.setIfInBounds_toArray,List.set_cons_zero,List.set_cons_succ];done)|(simp only[List.setIfInBounds_toArray,List.set_cons_zero,List.set_cons_succ];rfl)|rfl):W'.heap[g]? =some (.cells cs' t (0,0)):=e ▸ k h.out
theorem bq{W W' W1:World}{g:Nat}{t:TypeId}{cs c2 cs':Array Value}(h:Aside0 (W.heap[g]? =some (.cells cs t (0,0))))(hb:Below W'.heap.size W' W1)(k:W.heap[g]? =some (.cells cs t (0,0))→W'.heap[g]? =some (.cells c2 t (0,0)):=by intro h;(with_reducible repeat (first|refine blk_drewN ?_ _|refine blk_drew ?_|refine blk_alloc ?_ _|apply blk_set|apply blk_far));exact h;all_goals exact Aside0.out (by assumption))(e:c2=cs':=by(try simp only[List.setIfInBounds_toArray,List.set_cons_zero,List.set_cons_succ]);rfl):Aside0 (W1.heap[g]? =some (.cells cs' t (0,0))):=⟨e ▸ blk_below (k h.out) hb⟩
theorem kf{α:Type}{d:Kd α}{e base:Nat}{W W':World}{ok ok':Nat→Prop}{v:Value}{xs:List α}(h:d.R e W base ok v xs)(m:∀k,ok k→ok' k)(k:d.R e W base ok v xs→d.R e W' base ok v xs:=by intro h;(with_reducible repeat (first|(refine Kd.R_far ?_ ?_ _;rotate_left;first|exact fun _ hk=>hk.2|exact fun _ hk=>hk.1.2|exact fun _ hk=>hk.1.1.2)|apply Kd.R_alloc|apply Kd.R_drewN|apply Kd.R_drew));exact h):d.R e W' base ok' v xs:=Kd.R_mono (k h) m
theorem hc1{A:Option Addr}{w W:World}{f0:Addr→Addr}{v0:Value}(hb:Below w.heap.size w W)(h:∃a,A=some a∧w.cell? (f0 a)=some v0):∃a,A=some a∧W.cell? (f0 a)=some v0:=let ⟨a,e,h0⟩:=h;⟨a,e,hcl hb h0⟩
theorem hc2{A:Option Addr}{w W:World}{f0 f1:Addr→Addr}{v0 v1:Value}(hb:Below w.heap.size w W)(h:∃a,A=some a∧w.cell? (f0 a)=some v0∧w.cell? (f1 a)=some v1):∃a,A=some a∧W.cell? (f0 a)=some v0∧W.cell? (f1 a)=some v1:=let ⟨a,e,h0,h1⟩:=h;⟨a,e,hcl hb h0,hcl hb h1⟩
theorem hc3{A:Option Addr}{w W:World}{f0 f1 f2:Addr→Addr}{v0 v1 v2:Value}(hb:Below w.heap.size w W)(h:∃a,A=some a∧w.cell? (f0 a)=some v0∧w.cell? (f1 a)=some v1∧w.cell? (f2 a)=some v2):∃a,A=some a∧W.cell? (f0 a)=some v0∧W.cell? (f1 a)=some v1∧W.cell? (f2 a)=some v2:=let ⟨a,e,h0,h1,h2⟩:=h;⟨a,e,hcl hb h0,hcl hb h1,hcl hb h2⟩
theorem hc5{A:Option Addr}{w W:World}{f0 f1 f2 f3 f4:Addr→Addr}{v0 v1 v2 v3 v4:Value}(hb:Below w.heap.size w W)(h:∃a,A=some a∧w.cell? (f0 a)=some v0∧w.cell? (f1 a)=some v1∧w.cell? (f2 a)=some v2∧w.cell? (f3 a)=some v3∧w.cell? (f4 a)=some v4):∃a,A=some a∧W.cell? (f0 a)=some v0∧W.cell? (f1 a)=some v1∧W.cell? (f2 a)=some v2∧W.cell? (f3 a)=some v3∧W.cell? (f4 a)=some v4:=let ⟨a,e,h0,h1,h2,h3,h4⟩:=h;⟨a,e,hcl hb h0,hcl hb h1,hcl hb h2,hcl hb h3,hcl hb h4⟩
theorem mk_rowR2{α:Type}{d:Kd α}{e:Nat}{w Wc W:World}{ok:Nat→Prop}{v:Value}{xs:List α}(ho:Kd.R d e W Wc.heap.size ok v xs)(hb:Below w.heap.size w Wc):∃n m:Nat,n=Wc.heap.size∧m=W.heap.size∧Kd.R d e W w.heap.size (fun k=>(n≤k∧k<m)∧ok k) v xs:=⟨_,_,rfl,rfl,Kd.R_lower (Kd.R_mono (Kd.R_bound ho) (fun k hk=>⟨⟨hk.2.1,hk.2.2.1⟩,hk.1⟩)) (below_size hb)⟩
theorem row_inR{α:Type}{d:Kd α}{e n m:Nat}{w Wc W:World}{ok:Nat→Prop}{v:Value}{xs:List α}(ho:Kd.R d e W Wc.heap.size ok v xs)(hb:Below w.heap.size w Wc)(hn:n=Wc.heap.size)(hm:m=W.heap.size):Kd.R d e W w.heap.size (fun k=>(n≤k∧k<m)∧ok k) v xs:=by subst hn hm;exact Kd.R_lower (Kd.R_mono (Kd.R_bound ho) (fun k hk=>⟨⟨hk.2.1,hk.2.2.1⟩,hk.1⟩)) (below_size hb)
theorem slen{α:Type}(l:List α)(n:Int)(h:n≤(l.length:Int)):(l.take n.toNat).length=n.toNat:=by rw[List.length_take];omega
theorem info3:(Tryz.prog.info? 3).map (fun i=>(i.zero,i.size,i.bytes))=some (some (.int .i64 0),1,8):=by kernel_rfl
theorem info4:(Tryz.prog.info? 4).map (fun i=>(i.zero,i.size,i.bytes))=some (some (.bool false),1,1):=by kernel_rfl
theorem info71:(Tryz.prog.info? 71).map (fun i=>(i.zero,i.size,i.bytes))=some (some (.agg #[(.int .i64 0),(.int .i64 0),(.int .i64 0)]),3,24):=by kernel_rfl
theorem info79:(Tryz.prog.info? 79).map (fun i=>(i.zero,i.size,i.bytes))=some (some (.agg #[(.int .i64 0),(.int .i64 0),(.int .i64 0),(.int .i64 0),(.int .i64 0)]),5,40):=by kernel_rfl
theorem info83:(Tryz.prog.info? 83).map (fun i=>(i.zero,i.size,i.bytes))=some (some (.agg #[(.string ⟨#[]⟩),(.int .i64 0),(.int .i64 0)]),3,32):=by kernel_rfl
theorem info112:(Tryz.prog.info? 112).map (fun i=>(i.zero,i.size,i.bytes))=some (some (.agg #[(.int .i64 0),(.int .i64 0),(.int .i64 0),(.int .i64 0),(.int .i64 0),(.int .i64 0),(.int .i64 0)]),7,56):=by kernel_rfl
structure S82 where
  f0:ByteArray
  f1:Int
  f2:Int
def z82:S82:=⟨(⟨#[]⟩:ByteArray),(0:Int),(0:Int)⟩
def k82:Kd S82:=Kd.iso (Kd.pair Kd.string (Kd.pair (Kd.int .i64) (Kd.int .i64))) (fun x:S82=>(x.f0,x.f1,x.f2))
theorem k82_open{w:World}{x:S82}{cs:List Value}(h:k82.K w x cs):cs= [.string x.f0,.int .i64 x.f1,.int .i64 x.f2]:=by
 obtain⟨_,_,rfl,rfl,⟨_,_,rfl,rfl,rfl⟩⟩:=h
 exact rfl
def rd_T82(xs:List S82)(i:Int):S82:=xs.getD i.toNat z82
theorem at_T82{w:World}{A:Option Addr}{n:Nat}{xs:List S82}(h:Kd.C k82 w A n xs)(i:Int)(h0:0≤i)(h1:i<n):∃ad,A=some ad∧w.cell? (ad.add (i.toNat*3))=some (.string (rd_T82 xs i).f0)∧w.cell? ⟨(ad.add (i.toNat*3)).block,(ad.add (i.toNat*3)).off+1,none⟩=some (.int .i64 (rd_T82 xs i).f1)∧w.cell? ⟨(ad.add (i.toNat*3)).block,(ad.add (i.toNat*3)).off+2,none⟩=some (.int .i64 (rd_T82 xs i).f2):=by
 obtain⟨ad,c,e,_,hK,hc0⟩:=Kd.C_get h z82 i h0 h1
 have hc:∀j u,c[j]? =some u→w.cell? (ad.add (i.toNat*3+j))=some u:=hc0
 obtain rfl:=k82_open hK
 exact⟨ad,e,hc 0 _ rfl,by rw[←add_field _ _ 1 (by omega)];exact hc 1 _ rfl,by rw[←add_field _ _ 2 (by omega)];exact hc 2 _ rfl⟩
structure S86 where
  f0:Int
  f1:Int
  f2:Int
  f3:Int
  f4:Int
def z86:S86:=⟨(0:Int),(0:Int),(0:Int),(0:Int),(0:Int)⟩
def k86:Kd S86:=Kd.iso (Kd.pair (Kd.int .i64) (Kd.pair (Kd.int .i64) (Kd.pair (Kd.int .i64) (Kd.pair (Kd.int .i64) (Kd.int .i64))))) (fun x:S86=>(x.f0,x.f1,x.f2,x.f3,x.f4))
theorem k86_open{w:World}{x:S86}{cs:List Value}(h:k86.K w x cs):cs= [.int .i64 x.f0,.int .i64 x.f1,.int .i64 x.f2,.int .i64 x.f3,.int .i64 x.f4]:=by
 obtain⟨_,_,rfl,rfl,⟨_,_,rfl,rfl,⟨_,_,rfl,rfl,⟨_,_,rfl,rfl,rfl⟩⟩⟩⟩:=h
 exact rfl
def rd_T86(xs:List S86)(i:Int):S86:=xs.getD i.toNat z86
theorem at_T86{w:World}{A:Option Addr}{n:Nat}{xs:List S86}(h:Kd.C k86 w A n xs)(i:Int)(h0:0≤i)(h1:i<n):∃ad,A=some ad∧w.cell? (ad.add (i.toNat*5))=some (.int .i64 (rd_T86 xs i).f0)∧w.cell? ⟨(ad.add (i.toNat*5)).block,(ad.add (i.toNat*5)).off+1,none⟩=some (.int .i64 (rd_T86 xs i).f1)∧w.cell? ⟨(ad.add (i.toNat*5)).block,(ad.add (i.toNat*5)).off+2,none⟩=some (.int .i64 (rd_T86 xs i).f2)∧w.cell? ⟨(ad.add (i.toNat*5)).block,(ad.add (i.toNat*5)).off+3,none⟩=some (.int .i64 (rd_T86 xs i).f3)∧w.cell? ⟨(ad.add (i.toNat*5)).block,(ad.add (i.toNat*5)).off+4,none⟩=some (.int .i64 (rd_T86 xs i).f4):=by
 obtain⟨ad,c,e,_,hK,hc0⟩:=Kd.C_get h z86 i h0 h1
 have hc:∀j u,c[j]? =some u→w.cell? (ad.add (i.toNat*5+j))=some u:=hc0
 obtain rfl:=k86_open hK
 exact⟨ad,e,hc 0 _ rfl,by rw[←add_field _ _ 1 (by omega)];exact hc 1 _ rfl,by rw[←add_field _ _ 2 (by omega)];exact hc 2 _ rfl,by rw[←add_field _ _ 3 (by omega)];exact hc 3 _ rfl,by rw[←add_field _ _ 4 (by omega)];exact hc 4 _ rfl⟩
structure S83 where
  f0:ByteArray
  f1:Int
  f2:Int
def z83:S83:=⟨(⟨#[]⟩:ByteArray),(0:Int),(0:Int)⟩
def k83:Kd S83:=Kd.iso (Kd.pair Kd.string (Kd.pair (Kd.int .i64) (Kd.int .i64))) (fun x:S83=>(x.f0,x.f1,x.f2))
theorem k83_open{w:World}{x:S83}{cs:List Value}(h:k83.K w x cs):cs= [.string x.f0,.int .i64 x.f1,.int .i64 x.f2]:=by
 obtain⟨_,_,rfl,rfl,⟨_,_,rfl,rfl,rfl⟩⟩:=h
 exact rfl
theorem k83_openM{w:World}{base:Nat}{ok:Nat→Prop}{x:S83}{cs:List Value}(h:k83.M w base ok x cs):cs= [.string x.f0,.int .i64 x.f1,.int .i64 x.f2]:=by
 obtain⟨_,_,rfl,rfl,⟨_,_,rfl,rfl,rfl⟩⟩:=h
 exact rfl
theorem k83_mkM(w:World)(base:Nat)(ok:Nat→Prop)(x:S83):k83.M w base ok x [.string x.f0,.int .i64 x.f1,.int .i64 x.f2]:=⟨[.string x.f0],[.int .i64 x.f1,.int .i64 x.f2],rfl,rfl,⟨[.int .i64 x.f1],[.int .i64 x.f2],rfl,rfl,rfl⟩⟩
def rd_T83(xs:List S83)(i:Int):S83:=xs.getD i.toNat z83
theorem at_T83{w:World}{A:Option Addr}{n:Nat}{xs:List S83}(h:Kd.C k83 w A n xs)(i:Int)(h0:0≤i)(h1:i<n):∃ad,A=some ad∧w.cell? (ad.add (i.toNat*3))=some (.string (rd_T83 xs i).f0)∧w.cell? ⟨(ad.add (i.toNat*3)).block,(ad.add (i.toNat*3)).off+1,none⟩=some (.int .i64 (rd_T83 xs i).f1)∧w.cell? ⟨(ad.add (i.toNat*3)).block,(ad.add (i.toNat*3)).off+2,none⟩=some (.int .i64 (rd_T83 xs i).f2):=by
 obtain⟨ad,c,e,_,hK,hc0⟩:=Kd.C_get h z83 i h0 h1
 have hc:∀j u,c[j]? =some u→w.cell? (ad.add (i.toNat*3+j))=some u:=hc0
 obtain rfl:=k83_open hK
 exact⟨ad,e,hc 0 _ rfl,by rw[←add_field _ _ 1 (by omega)];exact hc 1 _ rfl,by rw[←add_field _ _ 2 (by omega)];exact hc 2 _ rfl⟩
structure S79 where
  f0:Int
  f1:Int
  f2:Int
  f3:Int
  f4:Int
def z79:S79:=⟨(0:Int),(0:Int),(0:Int),(0:Int),(0:Int)⟩
def k79:Kd S79:=Kd.iso (Kd.pair (Kd.int .i64) (Kd.pair (Kd.int .i64) (Kd.pair (Kd.int .i64) (Kd.pair (Kd.int .i64) (Kd.int .i64))))) (fun x:S79=>(x.f0,x.f1,x.f2,x.f3,x.f4))
theorem k79_open{w:World}{x:S79}{cs:List Value}(h:k79.K w x cs):cs= [.int .i64 x.f0,.int .i64 x.f1,.int .i64 x.f2,.int .i64 x.f3,.int .i64 x.f4]:=by
 obtain⟨_,_,rfl,rfl,⟨_,_,rfl,rfl,⟨_,_,rfl,rfl,⟨_,_,rfl,rfl,rfl⟩⟩⟩⟩:=h
 exact rfl
theorem k79_openM{w:World}{base:Nat}{ok:Nat→Prop}{x:S79}{cs:List Value}(h:k79.M w base ok x cs):cs= [.int .i64 x.f0,.int .i64 x.f1,.int .i64 x.f2,.int .i64 x.f3,.int .i64 x.f4]:=by
 obtain⟨_,_,rfl,rfl,⟨_,_,rfl,rfl,⟨_,_,rfl,rfl,⟨_,_,rfl,rfl,rfl⟩⟩⟩⟩:=h
 exact rfl
theorem k79_mkM(w:World)(base:Nat)(ok:Nat→Prop)(x:S79):k79.M w base ok x [.int .i64 x.f0,.int .i64 x.f1,.int .i64 x.f2,.int .i64 x.f3,.int .i64 x.f4]:=⟨[.int .i64 x.f0],[.int .i64 x.f1,.int .i64 x.f2,.int .i64 x.f3,.int .i64 x.f4],rfl,rfl,⟨[.int .i64 x.f1],[.int .i64 x.f2,.int .i64 x.f3,.int .i64 x.f4],rfl,rfl,⟨[.int .i64 x.f2],[.int .i64 x.f3,.int .i64 x.f4],rfl,rfl,⟨[.int .i64 x.f3],[.int .i64 x.f4],rfl,rfl,rfl⟩⟩⟩⟩
def rd_T79(xs:List S79)(i:Int):S79:=xs.getD i.toNat z79
theorem at_T79{w:World}{A:Option Addr}{n:Nat}{xs:List S79}(h:Kd.C k79 w A n xs)(i:Int)(h0:0≤i)(h1:i<n):∃ad,A=some ad∧w.cell? (ad.add (i.toNat*5))=some (.int .i64 (rd_T79 xs i).f0)∧w.cell? ⟨(ad.add (i.toNat*5)).block,(ad.add (i.toNat*5)).off+1,none⟩=some (.int .i64 (rd_T79 xs i).f1)∧w.cell? ⟨(ad.add (i.toNat*5)).block,(ad.add (i.toNat*5)).off+2,none⟩=some (.int .i64 (rd_T79 xs i).f2)∧w.cell? ⟨(ad.add (i.toNat*5)).block,(ad.add (i.toNat*5)).off+3,none⟩=some (.int .i64 (rd_T79 xs i).f3)∧w.cell? ⟨(ad.add (i.toNat*5)).block,(ad.add (i.toNat*5)).off+4,none⟩=some (.int .i64 (rd_T79 xs i).f4):=by
 obtain⟨ad,c,e,_,hK,hc0⟩:=Kd.C_get h z79 i h0 h1
 have hc:∀j u,c[j]? =some u→w.cell? (ad.add (i.toNat*5+j))=some u:=hc0
 obtain rfl:=k79_open hK
 exact⟨ad,e,hc 0 _ rfl,by rw[←add_field _ _ 1 (by omega)];exact hc 1 _ rfl,by rw[←add_field _ _ 2 (by omega)];exact hc 2 _ rfl,by rw[←add_field _ _ 3 (by omega)];exact hc 3 _ rfl,by rw[←add_field _ _ 4 (by omega)];exact hc 4 _ rfl⟩
structure S112 where
  f0:Int
  f1:Int
  f2:Int
  f3:Int
  f4:Int
  f5:Int
  f6:Int
def z112:S112:=⟨(0:Int),(0:Int),(0:Int),(0:Int),(0:Int),(0:Int),(0:Int)⟩
def k112:Kd S112:=Kd.iso (Kd.pair (Kd.int .i64) (Kd.pair (Kd.int .i64) (Kd.pair (Kd.int .i64) (Kd.pair (Kd.int .i64) (Kd.pair (Kd.int .i64) (Kd.pair (Kd.int .i64) (Kd.int .i64))))))) (fun x:S112=>(x.f0,x.f1,x.f2,x.f3,x.f4,x.f5,x.f6))
theorem k112_open{w:World}{x:S112}{cs:List Value}(h:k112.K w x cs):cs= [.int .i64 x.f0,.int .i64 x.f1,.int .i64 x.f2,.int .i64 x.f3,.int .i64 x.f4,.int .i64 x.f5,.int .i64 x.f6]:=by
 obtain⟨_,_,rfl,rfl,⟨_,_,rfl,rfl,⟨_,_,rfl,rfl,⟨_,_,rfl,rfl,⟨_,_,rfl,rfl,⟨_,_,rfl,rfl,rfl⟩⟩⟩⟩⟩⟩:=h
 exact rfl
theorem k112_openM{w:World}{base:Nat}{ok:Nat→Prop}{x:S112}{cs:List Value}(h:k112.M w base ok x cs):cs= [.int .i64 x.f0,.int .i64 x.f1,.int .i64 x.f2,.int .i64 x.f3,.int .i64 x.f4,.int .i64 x.f5,.int .i64 x.f6]:=by
 obtain⟨_,_,rfl,rfl,⟨_,_,rfl,rfl,⟨_,_,rfl,rfl,⟨_,_,rfl,rfl,⟨_,_,rfl,rfl,⟨_,_,rfl,rfl,rfl⟩⟩⟩⟩⟩⟩:=h
 exact rfl
theorem k112_mkM(w:World)(base:Nat)(ok:Nat→Prop)(x:S112):k112.M w base ok x [.int .i64 x.f0,.int .i64 x.f1,.int .i64 x.f2,.int .i64 x.f3,.int .i64 x.f4,.int .i64 x.f5,.int .i64 x.f6]:=⟨[.int .i64 x.f0],[.int .i64 x.f1,.int .i64 x.f2,.int .i64 x.f3,.int .i64 x.f4,.int .i64 x.f5,.int .i64 x.f6],rfl,rfl,⟨[.int .i64 x.f1],[.int .i64 x.f2,.int .i64 x.f3,.int .i64 x.f4,.int .i64 x.f5,.int .i64 x.f6],rfl,rfl,⟨[.int .i64 x.f2],[.int .i64 x.f3,.int .i64 x.f4,.int .i64 x.f5,.int .i64 x.f6],rfl,rfl,⟨[.int .i64 x.f3],[.int .i64 x.f4,.int .i64 x.f5,.int .i64 x.f6],rfl,rfl,⟨[.int .i64 x.f4],[.int .i64 x.f5,.int .i64 x.f6],rfl,rfl,⟨[.int .i64 x.f5],[.int .i64 x.f6],rfl,rfl,rfl⟩⟩⟩⟩⟩⟩
def rd_T112(xs:List S112)(i:Int):S112:=xs.getD i.toNat z112
theorem at_T112{w:World}{A:Option Addr}{n:Nat}{xs:List S112}(h:Kd.C k112 w A n xs)(i:Int)(h0:0≤i)(h1:i<n):∃ad,A=some ad∧w.cell? (ad.add (i.toNat*7))=some (.int .i64 (rd_T112 xs i).f0)∧w.cell? ⟨(ad.add (i.toNat*7)).block,(ad.add (i.toNat*7)).off+1,none⟩=some (.int .i64 (rd_T112 xs i).f1)∧w.cell? ⟨(ad.add (i.toNat*7)).block,(ad.add (i.toNat*7)).off+2,none⟩=some (.int .i64 (rd_T112 xs i).f2)∧w.cell? ⟨(ad.add (i.toNat*7)).block,(ad.add (i.toNat*7)).off+3,none⟩=some (.int .i64 (rd_T112 xs i).f3)∧w.cell? ⟨(ad.add (i.toNat*7)).block,(ad.add (i.toNat*7)).off+4,none⟩=some (.int .i64 (rd_T112 xs i).f4)∧w.cell? ⟨(ad.add (i.toNat*7)).block,(ad.add (i.toNat*7)).off+5,none⟩=some (.int .i64 (rd_T112 xs i).f5)∧w.cell? ⟨(ad.add (i.toNat*7)).block,(ad.add (i.toNat*7)).off+6,none⟩=some (.int .i64 (rd_T112 xs i).f6):=by
 obtain⟨ad,c,e,_,hK,hc0⟩:=Kd.C_get h z112 i h0 h1
 have hc:∀j u,c[j]? =some u→w.cell? (ad.add (i.toNat*7+j))=some u:=hc0
 obtain rfl:=k112_open hK
 exact⟨ad,e,hc 0 _ rfl,by rw[←add_field _ _ 1 (by omega)];exact hc 1 _ rfl,by rw[←add_field _ _ 2 (by omega)];exact hc 2 _ rfl,by rw[←add_field _ _ 3 (by omega)];exact hc 3 _ rfl,by rw[←add_field _ _ 4 (by omega)];exact hc 4 _ rfl,by rw[←add_field _ _ 5 (by omega)];exact hc 5 _ rfl,by rw[←add_field _ _ 6 (by omega)];exact hc 6 _ rfl⟩
structure S71 where
  f0:Int
  f1:Int
  f2:Int
def z71:S71:=⟨(0:Int),(0:Int),(0:Int)⟩
def k71:Kd S71:=Kd.iso (Kd.pair (Kd.int .i64) (Kd.pair (Kd.int .i64) (Kd.int .i64))) (fun x:S71=>(x.f0,x.f1,x.f2))
theorem k71_open{w:World}{x:S71}{cs:List Value}(h:k71.K w x cs):cs= [.int .i64 x.f0,.int .i64 x.f1,.int .i64 x.f2]:=by
 obtain⟨_,_,rfl,rfl,⟨_,_,rfl,rfl,rfl⟩⟩:=h
 exact rfl
theorem k71_mkM(w:World)(base:Nat)(ok:Nat→Prop)(x:S71):k71.M w base ok x [.int .i64 x.f0,.int .i64 x.f1,.int .i64 x.f2]:=⟨[.int .i64 x.f0],[.int .i64 x.f1,.int .i64 x.f2],rfl,rfl,⟨[.int .i64 x.f1],[.int .i64 x.f2],rfl,rfl,rfl⟩⟩
def rd_T71(xs:List S71)(i:Int):S71:=xs.getD i.toNat z71
theorem at_T71{w:World}{A:Option Addr}{n:Nat}{xs:List S71}(h:Kd.C k71 w A n xs)(i:Int)(h0:0≤i)(h1:i<n):∃ad,A=some ad∧w.cell? (ad.add (i.toNat*3))=some (.int .i64 (rd_T71 xs i).f0)∧w.cell? ⟨(ad.add (i.toNat*3)).block,(ad.add (i.toNat*3)).off+1,none⟩=some (.int .i64 (rd_T71 xs i).f1)∧w.cell? ⟨(ad.add (i.toNat*3)).block,(ad.add (i.toNat*3)).off+2,none⟩=some (.int .i64 (rd_T71 xs i).f2):=by
 obtain⟨ad,c,e,_,hK,hc0⟩:=Kd.C_get h z71 i h0 h1
 have hc:∀j u,c[j]? =some u→w.cell? (ad.add (i.toNat*3+j))=some u:=hc0
 obtain rfl:=k71_open hK
 exact⟨ad,e,hc 0 _ rfl,by rw[←add_field _ _ 1 (by omega)];exact hc 1 _ rfl,by rw[←add_field _ _ 2 (by omega)];exact hc 2 _ rfl⟩
structure S103 where
  f0:Int
  f1:Bool
  f2:Bool
def z103:S103:=⟨(0:Int),false,false⟩
def k103:Kd S103:=Kd.iso (Kd.pair (Kd.int .i64) (Kd.pair Kd.bool Kd.bool)) (fun x:S103=>(x.f0,x.f1,x.f2))
theorem k103_open{w:World}{x:S103}{cs:List Value}(h:k103.K w x cs):cs= [.int .i64 x.f0,.bool x.f1,.bool x.f2]:=by
 obtain⟨_,_,rfl,rfl,⟨_,_,rfl,rfl,rfl⟩⟩:=h
 exact rfl
theorem k103_openM{w:World}{base:Nat}{ok:Nat→Prop}{x:S103}{cs:List Value}(h:k103.M w base ok x cs):cs= [.int .i64 x.f0,.bool x.f1,.bool x.f2]:=by
 obtain⟨_,_,rfl,rfl,⟨_,_,rfl,rfl,rfl⟩⟩:=h
 exact rfl
theorem k103_mkM(w:World)(base:Nat)(ok:Nat→Prop)(x:S103):k103.M w base ok x [.int .i64 x.f0,.bool x.f1,.bool x.f2]:=⟨[.int .i64 x.f0],[.bool x.f1,.bool x.f2],rfl,rfl,⟨[.bool x.f1],[.bool x.f2],rfl,rfl,rfl⟩⟩
def rd_T103(xs:List S103)(i:Int):S103:=xs.getD i.toNat z103
theorem at_T103{w:World}{A:Option Addr}{n:Nat}{xs:List S103}(h:Kd.C k103 w A n xs)(i:Int)(h0:0≤i)(h1:i<n):∃ad,A=some ad∧w.cell? (ad.add (i.toNat*3))=some (.int .i64 (rd_T103 xs i).f0)∧w.cell? ⟨(ad.add (i.toNat*3)).block,(ad.add (i.toNat*3)).off+1,none⟩=some (.bool (rd_T103 xs i).f1)∧w.cell? ⟨(ad.add (i.toNat*3)).block,(ad.add (i.toNat*3)).off+2,none⟩=some (.bool (rd_T103 xs i).f2):=by
 obtain⟨ad,c,e,_,hK,hc0⟩:=Kd.C_get h z103 i h0 h1
 have hc:∀j u,c[j]? =some u→w.cell? (ad.add (i.toNat*3+j))=some u:=hc0
 obtain rfl:=k103_open hK
 exact⟨ad,e,hc 0 _ rfl,by rw[←add_field _ _ 1 (by omega)];exact hc 1 _ rfl,by rw[←add_field _ _ 2 (by omega)];exact hc 2 _ rfl⟩
end Go.Proofs.YtgalpgakdcfilaaGreat.L
