/- The law FnExactEliminatedTeams, for every input that its row speaks of: it returns true and leaves its arguments as they were. Conditions: none beyond the row's. -/
import Derived.Test.YtgalpgakdcfilaaGreatRows
import Derived.Test.YtgalpgakdcfilaaGreatL63
import Derived.Test.YtgalpgakdcfilaaGreatPureFnExactEliminatedTeams
import Derived.Test.YtgalpgakdcfilaaGreatOpenL
import Derived.WalkKit
import Derived.ProofKit
import Derived.OpenShut
import Derived.ShutString
import Derived.ChangeOld
import Derived.Below
import Derived.SizedLaws
namespace Go.Proofs.YtgalpgakdcfilaaGreat.fnExactEliminatedTeams
open Go.ChangeShapes Go.WideShapes Go.ChangeAt Go.RowKit Go.Proofs.YtgalpgakdcfilaaGreatW.PrintWords Go.Proofs.YtgalpgakdcfilaaGreat.L
open Go.ChangeMaps (open_string shut_string)
set_option linter.unusedVariables false
theorem own:ownKnob Tryz.prog.godebug=none:=by kernel_rfl
theorem laidOut:laidOutB Tryz.prog=true:=by kernel_rfl
set_option maxRecDepth 100000 in
theorem lifted(os:Os)(started:os.Started)(H:Type)(enc:TypeId×Value→H):
    ReturnsInHanded {} Tryz.checked os 3 .any (Rows.fnExactEliminatedTeamsSpec.pre6 enc Tryz.prog Tryz.f3 Rows.fnExactEliminatedTeamsRow.domain false) (Rows.fnExactEliminatedTeamsSpec.post enc Tryz.prog Tryz.f3 false true false false):=by
  refine returnsInHanded_of_change_sized (C:=Tryz.checked) own started (by kernel_rfl) Tryz.func3
    (ChangeSpec.witness6 (enc:=enc) (C:=Tryz.checked) false ⟨#[],#[.agg #[.slice none 0 0,.int .i64 0,.int .i64 0,.int .i64 0,.slice none 0 0,.bool false,.slice none 0 0,.slice none 0 0,.slice none 0 0]],[]⟩ 8 (by kernel_rfl) (by kernel_rfl) (by kernel_rfl) (by kernel_rfl)) ?_
  intro W base args ds gs before hval0 hW hcnd hsz0 _
  have hval:∀(j:Nat) t v,Tryz.f3.params[j]? =some t→args[j]? =some v→Value.okWide Tryz.prog W .any base t v:=hval0
  have hW':=hW
  obtain⟨p,q,hA0,hV,rfl,hfz,hnd⟩:=hW
  have hA:DataW.TrodAll enc Tryz.prog W 0 (fun _=>true) true Tryz.f3.params.toList args.toList ds p:=hA0
  rw[Tryz.params3]at hA hval
  obtain⟨v0,vs0,d0,ds0,p0,q0,hargs,rfl,rfl,h0,r0⟩:=trodAll_cons hA
  obtain⟨rfl,rfl,rfl⟩:=trodAll_nil r0
  obtain rfl:args=#[v0]:=by cases args;simp_all
  obtain⟨rfl,rfl⟩:=trodVars_none hV
  obtain⟨cs0,rfl,hz0,_⟩:∃cs,v0=.agg cs∧cs.size=Tryz.prog.cellsOf 28∧Row.okWide Tryz.prog W .any base 28 cs:=by
    have hv_:=(hval 0 28 v0 rfl rfl)
    unfold Value.okWide at hv_
    rw[Tryz.underlying28]at hv_
    exact hv_
  have k0:=h0
  have lt0:∀x∈p0,x.block<W.heap.size:=by obtain⟨m,hm⟩:=k0;exact DataW.trod_lt m _ _ _ hm
  obtain⟨x0,hK0,Q0⟩:=Opens.trod_ o28 h0
  obtain⟨l0_0,⟨⟨a0_1,⟨a0_2,⟨a0_3,⟨l0_4,a0_5⟩⟩⟩⟩,⟨l0_6,⟨l0_7,l0_8⟩⟩⟩⟩:=x0
  obtain⟨_,_,E0_8,⟨A0_0,c0_0,rfl,hl0_0,hr0_0⟩,⟨_,_,E0_7,⟨_,_,E0_4,rfl,⟨_,_,E0_3,rfl,⟨_,_,E0_2,rfl,⟨_,_,E0_1,⟨A0_4,c0_4,rfl,hl0_4,hr0_4⟩,rfl⟩⟩⟩⟩,⟨_,_,E0_6,⟨A0_6,c0_6,rfl,hl0_6,hr0_6⟩,⟨_,_,E0_5,⟨A0_7,c0_7,rfl,hl0_7,hr0_7⟩,⟨A0_8,c0_8,rfl,hl0_8,hr0_8⟩⟩⟩⟩⟩:=hK0
  obtain⟨q0_0,⟨⟨q0_1,⟨q0_2,⟨q0_3,⟨q0_4,q0_5⟩⟩⟩⟩,⟨q0_6,⟨q0_7,q0_8⟩⟩⟩⟩:=Q0
  obtain rfl:cs0=#[.slice A0_0 l0_0.length c0_0,.int .i64 a0_1,.int .i64 a0_2,.int .i64 a0_3,.slice A0_4 l0_4.length c0_4,.bool a0_5,.slice A0_6 l0_6.length c0_6,.slice A0_7 l0_7.length c0_7,.slice A0_8 l0_8.length c0_8]:=by
    apply Array.toList_inj.1
    have e_:=E0_8
    simpa [Value.cells, *] using e_
  clear hA0 hval0 hsz0
  obtain⟨kk,hp⟩:=FnExactEliminatedTeams.pure l0_0 a0_1 a0_2 a0_3 l0_4 a0_5 l0_6 l0_7 l0_8 q0_0 q0_1 q0_2 q0_3 q0_4 q0_6 q0_7 q0_8
  refine(laws_FnExactEliminatedTeams.calls kk _ _ l0_0 a0_1 a0_2 a0_3 _ _ l0_4 a0_5 _ _ l0_6 _ _ l0_7 _ _ l0_8 true W hr0_0 hl0_0 hr0_4 hl0_4 hr0_6 hl0_6 hr0_7 hl0_7 hr0_8 hl0_8 hp).mono fun e W' ⟨he,hb_⟩=>?_
  have bel:Below W.heap.size W W':=hb_
  subst he
  exact⟨_,rfl,_,_,_,[],_,[],hW',trodAll_mk1 (shut_bool Tryz.underlying4 _),(trodAll_cons_mk (Below.trod laidOut (by kernel_rfl) (of_decide_eq_true (by kernel_rfl)) k0 bel lt0) trodAll_mk0),rfl,bel.frame _,fun h=>by cases h⟩
theorem over:Rows.fnExactEliminatedTeamsRow.holds Tryz.pinned (OpenSpec.ofChange Rows.fnExactEliminatedTeamsSpec):=
  OpenClaim.holds_of_wide 3 Tryz.f3 rfl rfl rfl rfl rfl rfl rfl ⟨rfl,rfl,rfl,rfl,rfl⟩ rfl rfl rfl rfl rfl (by kernel_rfl) Tryz.func3 (by kernel_rfl)
    (of_decide_eq_true (by kernel_rfl)) (by unfold Func.isWrapper;first|(rw[if_pos (by decide+kernel)];kernel_rfl)|(rw[if_neg (by decide+kernel)];exact⟨rfl,rfl⟩))
    (fun os started H enc _=>lifted os started H enc)
theorem proved:Rows.FnExactEliminatedTeamsSaid:=over
#print axioms proved
end Go.Proofs.YtgalpgakdcfilaaGreat.fnExactEliminatedTeams
namespace Go.Proofs.YtgalpgakdcfilaaGreat
theorem fnExactEliminatedTeams_holds:Rows.FnExactEliminatedTeamsSaid:=fnExactEliminatedTeams.proved
end Go.Proofs.YtgalpgakdcfilaaGreat
