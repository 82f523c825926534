-- Written by a program of this session (wip/xp.py).
import Derived.Test.YtgalpgakdcfilaaGreatL0
import Derived.Test.YtgalpgakdcfilaaGreatL35
import Derived.Test.YtgalpgakdcfilaaGreatL50
namespace Go.Proofs.YtgalpgakdcfilaaGreat.L
open Go.RowKit Go.Proofs.YtgalpgakdcfilaaGreatW.PrintWords Go.Proofs.YtgalpgakdcfilaaGreatW.PrintLast Go.Proofs.YtgalpgakdcfilaaGreatW.PrintMore
attribute [local go_sem] max2_int min2_int max_two min_two max_three min_three max_four min_four
set_option linter.unusedVariables false
set_option linter.unusedSimpArgs false
set_option maxHeartbeats 8000000
set_option maxRecDepth 100000
def impl_areEnds.f(k:Nat)(a:Int)(b:List (S71))(a1:Int)(a2:Int):Option (Bool):=(impl_NetOk.f k a b).bind fun c=>(if c=true then((impl_within.f a1 0 (wrap64 (a-1))).bind fun d=>(if d=true then((impl_within.f a2 0 (wrap64 (a-1))).bind fun e=>(if e=true then(some (a1 != a2))else(some false)))else(some false)))else(some false))
theorem impl_areEnds.calls(k:Nat)(b:Int)(i:Option Addr)(j:Nat)(c:List (S71))(a1:Int)(a2:Int)(r:Bool)(w:World)(g:Kd.C k71 w i c.length c)(d:c.length≤j)(h:impl_areEnds.f k b c a1 a2=some r):Calls Tryz.prog 66 #[.agg #[.int .i64 b,.slice i c.length j],.int .i64 a1,.int .i64 a2] w fun e w'=>e=.returned (.bool r)∧Below w.heap.size w w':=by
 have n:=Tryz.underlying65
 replace g:=am g
 replace d:=am d
 have HB:=qb w
 have H:=h
 unfold impl_areEnds.f at H
 clear h
 replace H:=bm H;obtain⟨o,A4,H⟩:=H
 replace H:=ib H;obtain⟨rfl,H⟩|⟨rfl,H⟩:=H
 ·replace H:=bm H;obtain⟨p,A6,H⟩:=H
  replace H:=ib H;obtain⟨rfl,H⟩|⟨rfl,H⟩:=H
  ·replace H:=bm H;obtain⟨q,A8,H⟩:=H
   replace H:=ib H;obtain⟨rfl,H⟩|⟨rfl,H⟩:=H
   ·obtain rfl:=qj1 H
    go_enter Tryz.func66,Tryz.ntmps66
    go_wp2_with (first|((with_reducible refine gd 3 ?_);refine bx w 3 #[.int .i64 b,.slice i c.length j] 65 ?_;clear HB;intro m s a l HB;obtain⟨_,_,_,_⟩:=cf2 a.out)|((with_reducible refine gc 71 ?_);refine gl 8 Tryz.func71 (impl_NetOk.calls k b _ _ c true _ (cb g HB) d.out A4.out) ?_;rintro e t ⟨rfl,hb⟩;refine⟨_,rfl,?_⟩;replace a:=b1 a hb;replace HB:=b2 hb;(try clear hb);obtain⟨_,_,_,_⟩:=cf2 a.out)|(go_at_call 72;refine cm1 (impl_within.calls a1 0 (wrap64 (b-1)) true _ A6.out) ?_;intro nd)|(go_at_call 72;refine cm1 (impl_within.calls a2 0 (wrap64 (b-1)) true _ A8.out) ?_;intro nd))
    go_ret
    exact⟨er,bel⟩
   ·obtain rfl:=qj1 H
    go_enter Tryz.func66,Tryz.ntmps66
    go_wp2_with (first|((with_reducible refine gd 3 ?_);refine bx w 3 #[.int .i64 b,.slice i c.length j] 65 ?_;clear HB;intro m u a l HB;obtain⟨_,_,_,_⟩:=cf2 a.out)|((with_reducible refine gc 71 ?_);refine gl 8 Tryz.func71 (impl_NetOk.calls k b _ _ c true _ (cb g HB) d.out A4.out) ?_;rintro e v ⟨rfl,hb⟩;refine⟨_,rfl,?_⟩;replace a:=b1 a hb;replace HB:=b2 hb;(try clear hb);obtain⟨_,_,_,_⟩:=cf2 a.out)|(go_at_call 72;refine cm1 (impl_within.calls a1 0 (wrap64 (b-1)) true _ A6.out) ?_;intro nd)|(go_at_call 72;refine cm1 (impl_within.calls a2 0 (wrap64 (b-1)) false _ A8.out) ?_;intro nd))
    go_ret
    exact⟨er,bel⟩
  ·obtain rfl:=qj1 H
   go_enter Tryz.func66,Tryz.ntmps66
   go_wp2_with (first|((with_reducible refine gd 3 ?_);refine bx w 3 #[.int .i64 b,.slice i c.length j] 65 ?_;clear HB;intro m x a l HB;obtain⟨_,_,_,_⟩:=cf2 a.out)|((with_reducible refine gc 71 ?_);refine gl 8 Tryz.func71 (impl_NetOk.calls k b _ _ c true _ (cb g HB) d.out A4.out) ?_;rintro e y ⟨rfl,hb⟩;refine⟨_,rfl,?_⟩;replace a:=b1 a hb;replace HB:=b2 hb;(try clear hb);obtain⟨_,_,_,_⟩:=cf2 a.out)|(go_at_call 72;refine cm1 (impl_within.calls a1 0 (wrap64 (b-1)) false _ A6.out) ?_;intro nd))
   go_ret
   exact⟨er,bel⟩
 ·obtain rfl:=qj1 H
  go_enter Tryz.func66,Tryz.ntmps66
  go_wp2_with (first|((with_reducible refine gd 3 ?_);refine bx w 3 #[.int .i64 b,.slice i c.length j] 65 ?_;clear HB;intro m z a l HB;obtain⟨_,_,_,_⟩:=cf2 a.out)|((with_reducible refine gc 71 ?_);refine gl 8 Tryz.func71 (impl_NetOk.calls k b _ _ c false _ (cb g HB) d.out A4.out) ?_;rintro e A ⟨rfl,hb⟩;refine⟨_,rfl,?_⟩;replace a:=b1 a hb;replace HB:=b2 hb;(try clear hb)))
  go_ret
  exact⟨er,bel⟩
def impl_reach.vis(out:List S103)(ws:List Int)(nd pipe:Int)(back:Bool):Option (List S103×List Int):=
  if 0≤nd then(if nd<(out.length:Int)then(if(rd_T103 out nd).f2=true then(some (out,ws))else(if ws.length<17592186044416 then(some (out.set nd.toNat ⟨pipe,back,true⟩,ws++[nd]))else(none)))else(none))else(none)
def impl_reach.St(base:Nat)(W:World)(gO gW:Nat)(out:List S103)(ws:List Int):Prop:=
  base≤gO∧base≤gW∧∃vO vW:Value,W.heap[gO]? =some (.cells #[vO] 100 (0,0))∧W.heap[gW]? =some (.cells #[vW] 23 (0,0))∧Kd.R k103 103 W base (fun _=>True) vO out∧Kd.Q (Kd.int .i64) 3 W base (fun _=>True) vW ws
def impl_reach.Kp(w w':World):Prop:=∀(g:Nat) (cs:Array Value) (t:TypeId),(t=65∨t=71)→w.heap[g]? =some (.cells cs t (0,0))→w'.heap[g]? =some (.cells cs t (0,0))
theorem impl_reach.Kp.of_grown{w w1:World}{row:Option Nat}(hg:w.grownBy w1 row)(hne:∀k,row=some k→∃cells t,w.heap[k]? =some (.cells cells t (0,0))∧t≠65∧t≠71):impl_reach.Kp w w1:=fun g cs t ht h=>blk_grown h hg (fun e=>by
  obtain⟨cells,t',h1,h2,h3⟩:=hne g e.symm
  rw[h]at h1
  injection h1 with h1
  injection h1 with _ h1
  rcases ht with rfl|rfl
  · exact h2 h1.symm
  · exact h3 h1.symm)
theorem impl_reach.ne_typ{W:World}{a b:Nat}{ca cb:Array Value}{ta tb:TypeId}(h1:W.heap[a]? =some (.cells ca ta (0,0)))(h2:W.heap[b]? =some (.cells cb tb (0,0)))(ht:ta≠tb):a≠b:=by
 rintro rfl
 rw[h1]at h2
 injection h2 with h2
 injection h2 with _ h2
 exact ht h2
theorem impl_reach.St_below{base:Nat}{W W1:World}{gO gW:Nat}{out:List S103}{ws:List Int}(h:impl_reach.St base W gO gW out ws)(hb:Below W.heap.size W W1):impl_reach.St base W1 gO gW out ws:=by
 obtain⟨h1,h2,vO,vW,h3,h4,h5,h6⟩:=h
 exact⟨h1,h2,vO,vW,blk_below h3 hb,blk_below h4 hb,Kd.R_below h5 hb,Kd.Q_below h6 hb⟩
theorem impl_reach.St_set{base:Nat}{W:World}{gO gW g:Nat}{out:List S103}{ws:List Int}{cs:Array Value}{t:TypeId}(h:impl_reach.St base W gO gW out ws)(hb:W.heap[g]? =some (.cells cs t (0,0)))(ht:t≠100∧t≠23∧t≠103∧t≠3)(j:Nat)(u:Value):impl_reach.St base (W.setCell ⟨g,j,none⟩ u) gO gW out ws:=by
 obtain⟨h1,h2,vO,vW,h3,h4,h5,h6⟩:=h
 refine⟨h1,h2,vO,vW,blk_far h3 (impl_reach.ne_typ h3 hb (fun e=>ht.1 e.symm)) _,blk_far h4 (impl_reach.ne_typ h4 hb (fun e=>ht.2.1 e.symm)) _,Kd.R_mono (Kd.R_far (Kd.R_types h5 hb (fun q hq=>?_)) (fun _ hk=>hk.2) _) (fun _ _=>trivial),Kd.Q_set h6 hb (fun q hq=>?_) j u⟩
 ·have:q=103:=by simpa [k103,Kd.iso,Kd.pair,Kd.int,Kd.bool,Kd.scalar] using hq
  rw[this];exact fun e=>ht.2.2.1 e.symm
 ·have:q=3:=by simpa [Kd.int,Kd.scalar] using hq
  rw[this];exact fun e=>ht.2.2.2 e.symm
theorem impl_reach.St_far3{base:Nat}{W W1:World}{gO gW g:Nat}{out:List S103}{ws:List Int}{b0 b1 b2 a0 a1 a2:Value}{t:TypeId}(h:impl_reach.St base W gO gW out ws)(hb:W.heap[g]? =some (.cells #[b0,b1,b2] t (0,0)))(hw:W1=(((W.setCell ⟨g,0,none⟩ a0).setCell ⟨g,1,none⟩ a1).setCell ⟨g,2,none⟩ a2))(ht:t≠100∧t≠23∧t≠103∧t≠3):impl_reach.St base W1 gO gW out ws:=by
 subst hw
 exact impl_reach.St_set (impl_reach.St_set (impl_reach.St_set h hb ht 0 _) (blk_set hb 0 _) ht 1 _) (blk_set (blk_set hb 0 _) 1 _) ht 2 _
theorem impl_reach.far3{W W1:World}{g g':Nat}{o:Obj}{a0 a1 a2:Value}(h:W.heap[g']? =some o)(hne:g'≠g)(hw:W1=(((W.setCell ⟨g,0,none⟩ a0).setCell ⟨g,1,none⟩ a1).setCell ⟨g,2,none⟩ a2)):W1.heap[g']? =some o:=by
 subst hw
 exact(Below.heap_setCell _ _ _ _ hne).trans ((Below.heap_setCell _ _ _ _ hne).trans ((Below.heap_setCell _ _ _ _ hne).trans h))
theorem impl_reach.St_drew{base:Nat}{W:World}{gO gW:Nat}{out:List S103}{ws:List Int}(h:impl_reach.St base W gO gW out ws):impl_reach.St base W.drew gO gW out ws:=by
 obtain⟨h1,h2,vO,vW,h3,h4,h5,h6⟩:=h
 exact⟨h1,h2,vO,vW,h3,h4,Kd.R_drew h5,Kd.Q_drew h6⟩
theorem impl_reach.Kp.then_{w w1 w2:World}(h:impl_reach.Kp w w1)(k:impl_reach.Kp w1 w2):impl_reach.Kp w w2:=fun g cs t ht hb=>k g cs t ht (h g cs t ht hb)
theorem impl_reach.Kp.below{w w1:World}(h:Below w.heap.size w w1):impl_reach.Kp w w1:=fun g cs t ht hb=>blk_below hb h
theorem impl_reach.vcalls(nd pipe:Int)(back:Bool)(gO gW:Nat)(out:List S103)(ws:List Int)(out':List S103)(ws':List Int)(w0 w:World)(hB:Below w0.heap.size w0 w)(hS:impl_reach.St w0.heap.size w gO gW out ws)(h:impl_reach.vis out ws nd pipe back=some (out',ws')):Calls Tryz.prog 82 #[.int .i64 nd,.int .i64 pipe,.bool back,.pointer (some ⟨gO,0,none⟩),.pointer (some ⟨gW,0,none⟩)] w fun e w'=>e=.returned (.tuple #[])∧impl_reach.St w0.heap.size w' gO gW out' ws'∧Below w0.heap.size w0 w'∧impl_reach.Kp w w':=by
 have hu103:=Tryz.underlying103
 unfold impl_reach.vis at h
 by_cases c0:0≤nd
 ·rw[if_pos c0]at h
  by_cases c1:nd<(out.length:Int)
  ·rw[if_pos c1]at h
   obtain⟨hgO,hgW,vO,vW,hbO,hbW,hO,hQ⟩:=hS
   obtain⟨go,co,rfl,gb,gl,cl,HG⟩:=Kd.R_form hO (by omega)
   obtain⟨Aw,cw,rfl,hlw⟩:=Kd.Q_slice hQ
   obtain⟨ce,hcl,hM,hcc,hfr⟩:=Kd.R_elem hO z103 nd c0 c1
   obtain rfl:=k103_openM hM
   have hx0:w.cell? ⟨go,nd.toNat*3,none⟩=some (.int .i64 (rd_T103 out nd).f0):=hcc 0 _ rfl
   have hx1:w.cell? ⟨go,nd.toNat*3+1,none⟩=some (.bool (rd_T103 out nd).f1):=hcc 1 _ rfl
   have hx2:w.cell? ⟨go,nd.toNat*3+2,none⟩=some (.bool (rd_T103 out nd).f2):=hcc 2 _ rfl
   have hf0:w.frozen? ⟨go,nd.toNat*3,none⟩=false:=hfr 0
   have hf1:w.frozen? ⟨go,nd.toNat*3+1,none⟩=false:=hfr 1
   have hf2:w.frozen? ⟨go,nd.toNat*3+2,none⟩=false:=hfr 2
   have p0:decide (0≤nd)=true:=decide_eq_true c0
   have q0:decide (nd<(out.length:Int))=true:=decide_eq_true c1
   have p1:=eq_true c0
   have q1:=eq_true c1
   have cO:=(cf1 hbO).1
   have cW:=(cf1 hbW).1
   have fW:=(cf1 hbW).2
   have HB:=am hB
   have HO:=am hO
   have HQ:=am hQ
   have HbO:=am hbO
   have HbW:=am hbW
   have HgO:=am hgO
   have HgW:=am hgW
   have HGG:=am HG
   have GB:=am gb
   by_cases c2:(rd_T103 out nd).f2=true
   ·rw[if_pos c2]at h
    obtain⟨rfl,rfl⟩:=Prod.mk.inj (Option.some.inj h)
    rw[c2]at hx2
    clear h hB hO hQ hbO hbW hgO hgW HG c0 c1 c2 hcl hM hcc hfr gb gl
    go_enter Tryz.func82,Tryz.ntmps82
    go_wp2
    first|go_end0|((try simp only[Exit.inBlock,Exit.then]);refine bodyPost_ret (results_none rfl _ _ _) rfl ?_)
    exact⟨er,⟨HgO.out,HgW.out,_,_,HbO.out,HbW.out,HO.out,HQ.out⟩,HB.out,impl_reach.Kp.below (Below.refl _ _)⟩
   ·rw[if_neg c2]at h
    by_cases c3:ws.length<17592186044416
    ·rw[if_pos c3]at h
     obtain⟨rfl,rfl⟩:=Prod.mk.inj (Option.some.inj h)
     have c2':(rd_T103 out nd).f2=false:=by simpa using c2
     rw[c2']at hx2
     have HP:=Kd.R_seg hO nd c0 c1 (seg:=[.int .i64 pipe,.bool back,.bool true]) (j:=0) hcl hcc (show 3≤3 from by decide) (x':=(⟨pipe,back,true⟩:S103)) (k103_mkM _ _ _ (⟨pipe,back,true⟩:S103)) (fun _ hk=>hk)
     have LM:=am c3
     clear h hB hO hQ hbO hbW hgO hgW HG c0 c1 c2 c3 c2' hcl hM hcc hfr gb gl
     go_enter Tryz.func82,Tryz.ntmps82
     go_wp2_with (first
      |((with_reducible refine gs 103 19 ?_);refine sv 103 19 ?_;intro w1 hw;have hg:w.grownBy w1 (some go):=(by rw[hw];exact HP.2);have HO1:=am (show Kd.R k103 103 w1 w0.heap.size (fun _=>True) (.slice (some ⟨go,0,none⟩) out.length co) (out.set nd.toNat ⟨pipe,back,true⟩)from(by rw[hw];exact HP.1));have HQ1:=am (Kd.Q_over' HQ.out (Kd.R_typed HO.out) (by decide) hg);have HbO1:=am (blk_grown HbO.out hg (Kd.R_ne HO.out HbO.out (by decide)));have HbW1:=am (blk_grown HbW.out hg (Kd.R_ne HO.out HbW.out (by decide)));have HK1:=am (impl_reach.Kp.of_grown hg (fun k e=>by cases e;exact⟨cl,103,HGG.out,by decide,by decide⟩));have HB1:=am ((by rw[hw];exact below_set (below_set (below_set (HB.out) GB.out) GB.out) GB.out:Below w0.heap.size w0 w1));clear hg hw HP cO cW fW hx0 hx1 hx2 hf0 hf1 hf2 HO HQ HbO HbW;have cO:=(cf1 HbO1.out).1;have cW:=(cf1 HbW1.out).1;have fW:=(cf1 HbW1.out).2)
      |((with_reducible refine gate_builtin (b:=.append) (xs:=#[.tmp 20,.tmp 22]) rfl ?_);at_builtin;refine Kd.Q_append (Kd.int .i64) (w0:=w0) w0.heap.size rfl (.tmp 20) (.tmp 22) 23 3 (.int .i64 0) 8 rfl Tryz.underlying23 info3 rfl (by decide) (by omega) _ ws nd [.int .i64 nd] (fun _=>True) (fun _=>False) rfl rfl ?aP (fun _ hk=>hk.elim) ?aF ?aO ?aB ?aS ?aL ?_;(case aP=>exact rfl);(case aF=>exact(fun _ _=>trivial));(case aO=>exact HQ1.out);(case aB=>exact HB1.out);(case aS=>exact HB1.out.size);(case aL=>have:=LM.out;omega);intro v2 w2 ho hb hg hat;obtain⟨A2,c2,rfl,hl2⟩:=Kd.Q_slice ho;have HQ2:=am ho;have HO2:=am (Kd.R_over' HO1.out (Kd.Q_typed HQ1.out) (by decide) hg);have HbO2:=am (blk_grown HbO1.out hg (Kd.Q_ne HQ1.out HbO1.out (by decide)));have HbW2:=am (blk_grown HbW1.out hg (Kd.Q_ne HQ1.out HbW1.out (by decide)));have HK2:=am (impl_reach.Kp.then_ HK1.out (impl_reach.Kp.of_grown hg (fun k e=>by obtain⟨cells,hc⟩:=Kd.Q_typed HQ1.out k e;exact⟨cells,3,hc,by decide,by decide⟩)));have HB2:=am hb;clear ho hb hg hat cO cW fW HO1 HQ1 HbO1 HbW1 HB1 HK1 hl2;have cO:=(cf1 HbO2.out).1;have cW:=(cf1 HbW2.out).1;have fW:=(cf1 HbW2.out).2))
     first|go_end0|((try simp only[Exit.inBlock,Exit.then]);refine bodyPost_ret (results_none rfl _ _ _) rfl ?_)
     refine⟨er,⟨HgO.out,HgW.out,_,_,blk_far HbO2.out ?_ _,blk_put HbW2.out 0 _ rfl,Kd.R_mono (Kd.R_far (Kd.R_types HO2.out HbW2.out (by decide)) (fun _ hk=>hk.2) _) (fun _ _=>trivial),(by have h_:=Kd.Q_set HQ2.out HbW2.out (by decide) 0 (.slice A2 (ws++[nd]).length c2);rw[show(ws++[nd]).length=ws.length+1 by simp]at h_;exact h_)⟩,below_set HB2.out HgW.out,?_⟩
     ·intro e;subst e;have h1:=HbO2.out;rw[HbW2.out]at h1;injection h1 with h1;injection h1 with _ h1;exact absurd h1 (by decide)
     ·intro g cs t ht hb
      refine blk_far (HK2.out g cs t ht hb) ?_ _
      intro e
      subst e
      have h1:=HK2.out _ cs t ht hb
      rw[HbW2.out]at h1
      injection h1 with h1
      injection h1 with _ h1
      rcases ht with rfl|rfl<;>exact absurd h1 (by decide)
    ·rw[if_neg c3]at h
     exact absurd h (by simp)
  ·rw[if_neg c1]at h
   exact absurd h (by simp)
 ·rw[if_neg c0]at h
  exact absurd h (by simp)
theorem impl_reach.info103:(Tryz.prog.info? 103).map (fun i=>(i.zero,i.size,i.bytes))=some (some (.agg #[(.int .i64 0),(.bool false),(.bool false)]),3,16):=by kernel_rfl
def impl_reach.l1:Nat→List S71→List Int→Int→List S103→List Int→Int→Option (List S103×List Int)
  |0,_,_,_,_,_,_=>none
  |k+1,ps,fl,v,out,ws,i=>if i<(ps.length:Int)then(if 0≤i then((if(rd_T71 ps i).f0=v then(if i<(fl.length:Int)then(if rd fl i<(rd_T71 ps i).f2 then(impl_reach.vis out ws (rd_T71 ps i).f1 i false)else(some (out,ws)))else(none))else(some (out,ws))).bind fun a=>(if(rd_T71 ps i).f1=v then(if i<(fl.length:Int)then(if 0<rd fl i then(impl_reach.vis a.1 a.2 (rd_T71 ps i).f0 i true)else(some a))else(none))else(some a)).bind fun b=>impl_reach.l1 k ps fl v b.1 b.2 (wrap64 (i+1)))else(none))else(some (out,ws))
def impl_reach.l0:Nat→List S71→List Int→List S103→List Int→Option (List S103)
  |0,_,_,_,_=>none
  |k+1,ps,fl,out,ws=>if(ws.length:Int)>0 then((impl_reach.l1 k ps fl (rd ws 0) out (ws.drop 1) 0).bind fun b=>impl_reach.l0 k ps fl b.1 b.2)else(some out)
def impl_reach.f(k:Nat)(a:Int)(b:List S71)(a1:Int)(l2:List Int):Option (List S103):=if 0≤a then(if a.toNat≤8796093022208 then(if 0≤a1 then(if a1<((List.replicate a.toNat z103).length:Int)then(impl_reach.l0 k b l2 ((List.replicate a.toNat z103).set a1.toNat ⟨-1,false,true⟩) [a1])else(none))else(none))else(none))else(none)
theorem impl_reach.calls(k:Nat)(s:Int)(B:Option Addr)(D:Nat)(a:List (S71))(a1:Int)(A2:Option Addr)(c2:Nat)(l2:List Int)(r:List (S103))(w:World)(W:Kd.C k71 w B a.length a)(K:a.length≤D)(aE:Kd.C (Kd.int .i64) w A2 l2.length l2)(hc2:l2.length≤c2)(h:impl_reach.f k s a a1 l2=some r):Calls Tryz.prog 67 #[.agg #[.int .i64 s,.slice B a.length D],.int .i64 a1,.slice A2 l2.length c2] w fun e w'=>∃aG:Value,e=.returned (aG)∧Kd.R k103 103 w' w.heap.size (fun _=>True) aG r∧Below w.heap.size w w':=by
 have aN:=Tryz.underlying103
 have aU:=Tryz.underlying71
 have aT:=Tryz.underlying65
 unfold impl_reach.f at h
 by_cases c0:0≤s
 ·rw[if_pos c0]at h
  by_cases c1:s.toNat≤8796093022208
  ·rw[if_pos c1]at h
   by_cases J:0≤a1
   ·rw[if_pos J]at h
    by_cases c3:a1<((List.replicate s.toNat z103).length:Int)
    ·rw[if_pos c3]at h
     have HR:=am W
     have HC:=am K
     have HF:=am aE
     have HFC:=am hc2
     have H:=am h
     have b0:decide (0≤s)=true:=decide_eq_true c0
     have b1:decide (s.toNat≤8796093022208)=true:=decide_eq_true c1
     have p1:=eq_true J
     obtain⟨y0,ao⟩:∃y_:List S103,y_=List.replicate s.toNat z103:=⟨_,rfl⟩
     rw[←ao]at c3
     have q1:=eq_true c3
     have Hlt:=am c3
     have Hge:=am J
     have Ny:=am ao
     have HB:=qb w
     clear W K aE hc2 h c0 c1 J c3 ao
     go_enter Tryz.func67,Tryz.ntmps67
     go_wp2_with (first
      |((with_reducible refine gd 3 ?_);refine bv 3 #[.int .i64 s,.slice B a.length D] 65 ?_;intro gn hg w1 hbox hb;have BN:=am hbox;replace HB:=am (below_step HB.out hb);clear hb hbox hg;obtain⟨g,l,b,c⟩:=cf2 BN.out)
      |((with_reducible refine gate_dst (N:=15) rfl ?_);refine Kd.R_make k103 _ 103 rfl (N:=15) rfl 100 _ _ rfl s rfl rfl Tryz.underlying100 (.agg #[(.int .i64 0),(.bool false),(.bool false)]) 16 impl_reach.info103 rfl (by decide) (by omega) z103 (ok:=fun _=>True) (okp:=fun _=>True) (k103_mkM _ _ _ z103) (fun _ hk=>hk) trivial (asm) (Nat.le_trans (Nat.mul_le_mul_right _ (asm:s.toNat≤8796093022208)) (by omega)) (Below.refl _ _) (Nat.le_refl _) ?_;intro v4 w4 al hb hg_ hnew_;clear hg_ hnew_;rw[←Ny.out]at al;have HO:=am (Kd.R_lower al (below_size HB.out));replace BN:=am (blk_below BN.out hb);replace HB:=am (below_step HB.out hb);clear hb al g l b c;obtain⟨g,l,b,c⟩:=cf2 BN.out;obtain⟨go,co,eo,gb,gl,cl,HG⟩:=Kd.R_form HO.out (by have:=Hlt.out;have:=Hge.out;omega);(first|cases eo|subst eo);have GB:=am gb;have HGG:=am HG;clear gb gl HG)
      |((with_reducible refine gd 7 ?_);refine bv 7 #[.slice none 0 0] 100 ?_;intro gO hg w5 hbox hb;have BO:=am hbox;have GO:=am (hg ▸ below_size HB.out:w.heap.size≤gO);have ax:=am (Kd.R_below HO.out hb);replace BN:=am (blk_below BN.out hb);replace HGG:=am (blk_below HGG.out hb);replace HB:=am (below_step HB.out hb);clear hb hbox hg HO g l b c;obtain⟨g,l,b,c⟩:=cf2 BN.out;obtain⟨E,A⟩:=cf1 BO.out)
      |((with_reducible refine gs 100 7 ?_);refine sv 100 7 ?_;intro w6 hw;have aa:=am (show w6.heap[gO]? =some (.cells #[.slice (some ⟨go,0,none⟩) y0.length co] 100 (0,0))from by rw[hw];exact blk_put BO.out 0 _ rfl);have Y:=am (show w6.heap[gn]? =some (.cells #[.int .i64 s,.slice B a.length D] 65 (0,0))from by rw[hw];exact blk_far BN.out (impl_reach.ne_typ BN.out BO.out (by decide)) _);have I:=am (show Kd.R k103 103 w6 w.heap.size (fun _=>True) (.slice (some ⟨go,0,none⟩) y0.length co) y0 from by rw[hw];exact Kd.R_mono (Kd.R_far (Kd.R_types ax.out BO.out (by decide)) (fun _ hk=>hk.2) _) (fun _ _=>trivial));have au:=am (show Below w.heap.size w w6 from by rw[hw];exact below_set HB.out GO.out);clear hw ax BO BN HB HGG g l b c E A;obtain⟨g,l,b,c⟩:=cf2 Y.out;obtain⟨E,A⟩:=cf1 aa.out;obtain⟨ce,hcl,hM,hcc,hfr⟩:=Kd.R_elem I.out z103 a1 Hge.out Hlt.out;obtain rfl:=k103_openM hM;have aO:w6.cell? ⟨go,a1.toNat*3,none⟩=some (.int .i64 (rd_T103 y0 a1).f0):=hcc 0 _ rfl;have aP:w6.cell? ⟨go,a1.toNat*3+1,none⟩=some (.bool (rd_T103 y0 a1).f1):=hcc 1 _ rfl;have aQ:w6.cell? ⟨go,a1.toNat*3+2,none⟩=some (.bool (rd_T103 y0 a1).f2):=hcc 2 _ rfl;have aK:w6.frozen? ⟨go,a1.toNat*3,none⟩=false:=hfr 0;have aL:w6.frozen? ⟨go,a1.toNat*3+1,none⟩=false:=hfr 1;have aM:w6.frozen? ⟨go,a1.toNat*3+2,none⟩=false:=hfr 2;have HP:=am (Kd.R_seg I.out a1 Hge.out Hlt.out (seg:=[.int .i64 (-1),.bool false,.bool true]) (j:=0) hcl hcc (show 3≤3 from by decide) (x':=(⟨-1,false,true⟩:S103)) (k103_mkM _ _ _ (⟨-1,false,true⟩:S103)) (fun _ hk=>hk));clear hcl hM hcc hfr)
      |((with_reducible refine gs 103 19 ?_);refine sv 103 19 ?_;intro w7 hw;have hg:w6.grownBy w7 (some go):=(by rw[hw];exact HP.out.2);have ay:=am (show Kd.R k103 103 w7 w.heap.size (fun _=>True) (.slice (some ⟨go,0,none⟩) y0.length co) (y0.set a1.toNat ⟨-1,false,true⟩)from(by rw[hw];exact HP.out.1));have ah:=am (blk_grown aa.out hg (Kd.R_ne I.out aa.out (by decide)));have af:=am (blk_grown Y.out hg (Kd.R_ne I.out Y.out (by decide)));have aj:=am (by rw[hw];exact below_set (below_set (below_set (au.out) GB.out) GB.out) GB.out:Below w.heap.size w w7);clear hw hg HP I aa Y au g l b c E A aO aP aQ aK aL aM;obtain⟨g,l,b,c⟩:=cf2 af.out;obtain⟨E,A⟩:=cf1 ah.out)
      |((with_reducible refine gate_dst (N:=21) rfl ?_);refine Kd.R_lit (Kd.int .i64) _ 3 ?hg (N:=21) ?hd (xs:=([a1]:List Int)) (inner:=[.int .i64 a1]) (ok:=fun _=>True) (okp:=fun _=>True) ?hr ?hp (fun _ hk=>hk) trivial (Below.refl _ _) (Nat.le_refl _) (by simp) ?_;(case hd=>rfl);(case hg=>rfl);(case hr=>first|(go_simp;done)|(go_simp;rfl));(case hp=>exact(Reps.one (show Kd.M (Kd.int .i64) _ _ _ a1 [.int .i64 a1]from rfl) (Reps.none _ _)));intro v8 w8 L hb hg_ hnew_;clear hg_ hnew_;obtain⟨A8,c8,rfl⟩:=Kd.R_slice L;have aB:=am (Kd.R_lower L (below_size aj.out));have az:=am (Kd.R_below ay.out hb);have ai:=am (blk_below ah.out hb);have ag:=am (blk_below af.out hb);have ak:=am (below_step aj.out hb);clear hb L ay ah af aj g l b c E A;obtain⟨g,l,b,c⟩:=cf2 ag.out;obtain⟨E,A⟩:=cf1 ai.out)
      |((with_reducible refine gd 8 ?_);refine bv 8 #[.slice none 0 0] 23 ?_;intro gW hg w9 hbox hb;have G:=am hbox;have GW:=am (hg ▸ below_size ak.out:w.heap.size≤gW);have aC:=am (Kd.R_below aB.out hb);have aA:=am (Kd.R_below az.out hb);have ac:=am (blk_below ai.out hb);have Z:=am (blk_below ag.out hb);have av:=am (below_step ak.out hb);clear hb hbox hg aB az ai ag ak g l b c E A;obtain⟨g,l,b,c⟩:=cf2 Z.out;obtain⟨E,A⟩:=cf1 ac.out;obtain⟨an,X⟩:=cf1 G.out)
      |((with_reducible refine gs 23 8 ?_);refine sv 23 8 ?_;intro wa hw;have SA:=am (show impl_reach.St w.heap.size wa gO gW (y0.set a1.toNat ⟨-1,false,true⟩) [a1]from⟨GO.out,GW.out,_,_,(by rw[hw];exact blk_far ac.out (impl_reach.ne_typ ac.out G.out (by decide)) _),(by rw[hw];exact blk_put G.out 0 _ rfl),(by rw[hw];exact Kd.R_mono (Kd.R_far (Kd.R_types aA.out G.out (by decide)) (fun _ hk=>hk.2) _) (fun _ _=>trivial)),(by rw[hw];exact Kd.Q_of_R (Kd.R_mono (Kd.R_far (Kd.R_types aC.out G.out (by decide)) (fun _ hk=>hk.2) _) (fun _ _=>trivial)))⟩);have BNa:=am (show wa.heap[gn]? =some (.cells #[.int .i64 s,.slice B a.length D] 65 (0,0))from by rw[hw];exact blk_far Z.out (impl_reach.ne_typ Z.out G.out (by decide)) _);have HBa:=am (show Below w.heap.size w wa from by rw[hw];exact below_set av.out GW.out);clear hw aC aA ac Z av G g l b c E A an X))
     rw[Ny.out]at SA
     clear Hlt Ny
     (try simp only[Act.put,List.setIfInBounds_toArray,List.set_cons_zero,List.set_cons_succ])
     go_loopg [] k (fun kq w'=>∃(out:List S103) (ws:List Int),Aside0 (impl_reach.l0 kq a l2 out ws=some r)∧Aside0 (kq≤k)∧Aside0 (impl_reach.St w.heap.size w' gO gW out ws)∧Aside0 (w'.heap[gn]? =some (.cells #[.int .i64 s,.slice B a.length D] 65 (0,0)))∧Aside0 (Below w.heap.size w w'))
     case atStart=>exact⟨_,_,H,⟨Nat.le_refl _⟩,SA,BNa,HBa⟩
     case round=>
      clear H SA BNa HBa
      obtain⟨out,ws,HA,aw,SA,BN,HB⟩:=hrel
      cases gk with
      |zero=>exact absurd HA.out (by simp [impl_reach.l0])
      |succ k1=>
       have H:=HA.out
       clear HA
       simp only[impl_reach.l0]at H
       obtain⟨hgO,hgW,vO,vW,hbO,hbW,hO,hQ⟩:=SA.out
       obtain⟨Ao,aW,rfl⟩:=Kd.R_slice hO
       obtain⟨Aw,cw,rfl,hlw⟩:=Kd.Q_slice hQ
       obtain⟨an,X⟩:=cf1 hbW
       obtain⟨E,A⟩:=cf1 hbO
       obtain⟨g,l,b,c⟩:=cf2 BN.out
       by_cases c5:(ws.length:Int)>0
       ·rw[if_pos c5]at H
        obtain⟨⟨o2,w2⟩,ap,H2⟩:=Option.bind_eq_some_iff.mp H
        have A1:=am ap
        have H3:=am (show impl_reach.l0 k1 a l2 o2 w2=some r from H2)
        obtain⟨gq,oq,cq,eq_,_,_,_,_⟩:=Kd.Q_form hQ (by omega)
        cases eq_
        have hwc:wr.cell? ⟨gq,oq,none⟩=some (.int .i64 (rd ws 0)):=(Kd.Q_cell 0 hQ 0 (by omega) c5).1
        have aH:decide (0<(ws.length:Int))=true:=decide_eq_true c5
        have aI:decide (0<ws.length)=true:=decide_eq_true (by omega)
        have q5:=eq_true c5
        have aR:0<ws.length:=by omega
        have aX:=eq_true aR
        obtain⟨i0,aD,_,ae,_⟩:=info_parts info3
        have hcut:=cut_from (P:=Tryz.prog) 23 3 .i64 Tryz.underlying23 aD 1 ae (some ⟨gq,oq,none⟩) ws.length cw 1 (by omega) (by omega)
        have hQd:=Kd.Q_drop (k:=1) hQ (by omega)
        rw[show(1:Int).toNat=1 from rfl]at hcut
        rw[show(Kd.int .i64).sz=1 from rfl]at hQd
        obtain⟨Aq,hAq⟩:∃Aq,(if cw=1 then(some (⟨gq,oq,none⟩:Addr))else(some (⟨gq,oq,none⟩:Addr)).map (·.add (1*1)))=Aq:=⟨_,rfl⟩
        rw[hAq]at hcut hQd
        have HO:=am hO
        have HQd:=am hQd
        have HbO:=am hbO
        have HbW:=am hbW
        have HgO:=am hgO
        have HgW:=am hgW
        clear hAq hQd H ap H2 hO hQ hbO hbW hgO hgW hlw c5 SA aD ae
        go_wp2_with (first
         |((with_reducible refine gs 23 8 ?_);refine sv 23 8 ?_;intro wb hw;have SB:=am (show impl_reach.St w.heap.size wb gO gW out (ws.drop 1)from⟨HgO.out,HgW.out,_,_,(by rw[hw];exact blk_far HbO.out (impl_reach.ne_typ HbO.out HbW.out (by decide)) _),(by rw[hw];exact blk_put HbW.out 0 _ rfl),(by rw[hw];exact Kd.R_mono (Kd.R_far (Kd.R_types HO.out HbW.out (by decide)) (fun _ hk=>hk.2) _) (fun _ _=>trivial)),(by rw[hw];exact Kd.Q_set HQd.out HbW.out (by decide) 0 _)⟩);have BNb:=am (show wb.heap[gn]? =some (.cells #[.int .i64 s,.slice B a.length D] 65 (0,0))from by rw[hw];exact blk_far BN.out (impl_reach.ne_typ BN.out HbW.out (by decide)) _);have HBb:=am (show Below w.heap.size w wb from by rw[hw];exact below_set HB.out HgW.out);clear hw HO HQd HbO HbW BN HB an X E A g l b c hwc;obtain⟨g,l,b,c⟩:=cf2 BNb.out))
        (try simp only[Act.put,List.setIfInBounds_toArray,List.set_cons_zero,List.set_cons_succ])
        go_loopg [34] k1 (fun kq aS w'=>∃(out':List S103) (ws':List Int) (i:Int),aS=.int .i64 i∧Aside0 (impl_reach.l1 kq a l2 (rd ws 0) out' ws' i=some (o2,w2))∧Aside0 (kq≤k1)∧Aside0 (impl_reach.St w.heap.size w' gO gW out' ws')∧Aside0 (w'.heap[gn]? =some (.cells #[.int .i64 s,.slice B a.length D] 65 (0,0)))∧Aside0 (Below w.heap.size w w'))
        case atStart=>exact⟨_,_,0,rfl,A1,⟨Nat.le_refl _⟩,SB,BNb,HBb⟩
        case round=>
         clear A1 SB BNb HBb
         obtain⟨out',ws',i,rfl,HA,y,SA,BN,HB⟩:=hrel
         cases gk with
         |zero=>exact absurd HA.out (by simp [impl_reach.l1])
         |succ k2=>
          have H:=HA.out
          clear HA
          simp only[impl_reach.l1]at H
          by_cases c6:i<(a.length:Int)
          ·rw[if_pos c6]at H
           have aJ:decide (i<(a.length:Int))=true:=decide_eq_true c6
           by_cases c7:0≤i
           ·rw[if_pos c7]at H
            have aV:decide (0≤i)=true:=decide_eq_true c7
            have p6:=eq_true c6
            have p7:=eq_true c7
            obtain⟨adp,rfl,O,T,U⟩:=at_T71 HR.out i c7 c6
            replace O:=hcl HB.out O
            replace T:=hcl HB.out T
            replace U:=hcl HB.out U
            obtain⟨⟨o3,w3⟩,aq,H⟩:=Option.bind_eq_some_iff.mp H
            obtain⟨⟨o4,w4⟩,ar,H⟩:=Option.bind_eq_some_iff.mp H
            have B2:=am aq
            have B3:=am ar
            have H4:=am (show impl_reach.l1 k2 a l2 (rd ws 0) o4 w4 (wrap64 (i+1))=some (o2,w2)from H)
            clear H aq ar c6 c7
            go_wp2_with (first
             |((with_reducible refine gd 12 ?_);refine bv 12 #[.int .i64 0,.int .i64 0,.int .i64 0] 71 ?_;intro gp hg wc hbox hb;have BP:=am hbox;have GP:=am (hg ▸ below_size HB.out:w.heap.size≤gp);replace O:=hcl hb O;replace T:=hcl hb T;replace U:=hcl hb U;have SC:=am (impl_reach.St_below SA.out hb);replace BN:=am (blk_below BN.out hb);replace HB:=am (below_step HB.out hb);clear hb hbox hg SA;obtain⟨u,v,x,m,n,o⟩:=cf3 BP.out)
             |((with_reducible refine gs 71 12 ?_);refine sv 71 12 ?_;intro wd hw;have BPd:=am (pt3 BP.out hw);have SD:=am (impl_reach.St_far3 SC.out BP.out hw (by decide));have BNd:=am (impl_reach.far3 BN.out (impl_reach.ne_typ BN.out BP.out (by decide)) hw);have HBd:=am (bs3 HB.out GP.out hw);clear hw SC BP BN HB u v x m n o O T U g l b c;obtain⟨u,v,x,m,n,o⟩:=cf3 BPd.out))
            have H5:=B2.out
            clear B2
            by_cases cA:(rd_T71 a i).f0=rd ws 0
            ·rw[if_pos cA]at H5
             have cAb:((rd_T71 a i).f0==rd ws 0)=true:=beq_iff_eq.mpr cA
             by_cases cl:i<(l2.length:Int)
             ·rw[if_pos cl]at H5
              have clb:decide (i<(l2.length:Int))=true:=decide_eq_true cl
              have pl:=eq_true cl
              obtain⟨adf,rfl,hfw⟩:=Kd.at_int HF.out i (of_eq_true p7) cl
              have hfl:=hcl HBd.out hfw
              by_cases cD:rd l2 i<(rd_T71 a i).f2
              ·rw[if_pos cD]at H5
               have B5:=am H5
               have cDb:decide (rd l2 i<(rd_T71 a i).f2)=true:=decide_eq_true cD
               clear H5 cA cl cD
               go_region
               have S_:=am (impl_reach.St_drew SD.out)
               have BN_:=am (blk_drew BNd.out)
               have BP_:=am (blk_drew BPd.out)
               have HB_:=am (below_drew1 HBd.out)
               clear SD BNd BPd HBd u v x m n o
               (try clear hfl)
               generalize wd.drew=we at S_ BN_ BP_ HB_⊢
               obtain⟨u,v,x,m,n,o⟩:=cf3 BP_.out
               obtain⟨g,l,b,c⟩:=cf2 BN_.out
               have hfl:=hcl HB_.out hfw
               have H5:=B3.out
               clear B3
               by_cases cB:(rd_T71 a i).f1=rd ws 0
               ·rw[if_pos cB]at H5
                have cBb:((rd_T71 a i).f1==rd ws 0)=true:=beq_iff_eq.mpr cB
                by_cases t:i<(l2.length:Int)
                ·rw[if_pos t]at H5
                 have ad:decide (i<(l2.length:Int))=true:=decide_eq_true t
                 have aF:=eq_true t
                 obtain⟨adf,ef,hfw⟩:=Kd.at_int HF.out i (of_eq_true p7) t
                 cases ef
                 have hfl:=hcl HB_.out hfw
                 by_cases cC:0<rd l2 i
                 ·rw[if_pos cC]at H5
                  have B6:=am H5
                  have cCb:decide (0<rd l2 i)=true:=decide_eq_true cC
                  clear H5 cB t cC
                  go_wp2_with (first|(go_at_call 82;refine(impl_reach.vcalls (rd_T71 a i).f1 i false gO gW out' ws' o3 w3 w _ HB_.out S_.out B5.out).mono ?_;rintro e wy ⟨rfl,h1,h2,h3⟩;have z:=am h1;have p:=am (h3 _ _ _ (.inl rfl) BN_.out);have q:=am (h3 _ _ _ (.inr rfl) BP_.out);have d:=am h2;clear h1 h2 h3 S_ BN_ BP_ HB_ u v x m n o g l b c;(try replace hfl:=hcl d.out hfw);have S_:=z;have BN_:=p;have BP_:=q;have HB_:=d;clear z p q d;obtain⟨u,v,x,m,n,o⟩:=cf3 BP_.out;obtain⟨g,l,b,c⟩:=cf2 BN_.out)|(go_at_call 82;refine(impl_reach.vcalls (rd_T71 a i).f0 i true gO gW o3 w3 o4 w4 w _ HB_.out S_.out B6.out).mono ?_;rintro e wz ⟨rfl,h1,h2,h3⟩;have z:=am h1;have p:=am (h3 _ _ _ (.inl rfl) BN_.out);have q:=am (h3 _ _ _ (.inr rfl) BP_.out);have d:=am h2;clear h1 h2 h3 S_ BN_ BP_ HB_ u v x m n o g l b c;(try replace hfl:=hcl d.out hfw);have S_:=z;have BN_:=p;have BP_:=q;have HB_:=d;clear z p q d;obtain⟨u,v,x,m,n,o⟩:=cf3 BP_.out;obtain⟨g,l,b,c⟩:=cf2 BN_.out))
                  go_roundg k2
                  case measure=>have:=y.out;omega
                  case rel=>exact⟨_,_,wrap64 (i+1),es,H4,⟨by have:=y.out;omega⟩,S_,BN_,HB_⟩
                 ·rw[if_neg cC]at H5
                  obtain⟨rfl,rfl⟩:=Prod.mk.inj (Option.some.inj H5)
                  have cCb:decide (0<rd l2 i)=false:=decide_eq_false cC
                  clear H5 cB t cC
                  go_wp2_with (first|(go_at_call 82;refine(impl_reach.vcalls (rd_T71 a i).f1 i false gO gW out' ws' o3 w3 w _ HB_.out S_.out B5.out).mono ?_;rintro e wy ⟨rfl,h1,h2,h3⟩;have z:=am h1;have p:=am (h3 _ _ _ (.inl rfl) BN_.out);have q:=am (h3 _ _ _ (.inr rfl) BP_.out);have d:=am h2;clear h1 h2 h3 S_ BN_ BP_ HB_ u v x m n o g l b c;(try replace hfl:=hcl d.out hfw);have S_:=z;have BN_:=p;have BP_:=q;have HB_:=d;clear z p q d;obtain⟨u,v,x,m,n,o⟩:=cf3 BP_.out;obtain⟨g,l,b,c⟩:=cf2 BN_.out))
                  go_roundg k2
                  case measure=>have:=y.out;omega
                  case rel=>exact⟨_,_,wrap64 (i+1),es,H4,⟨by have:=y.out;omega⟩,S_,BN_,HB_⟩
                ·rw[if_neg t]at H5
                 exact absurd H5 (by simp)
               ·rw[if_neg cB]at H5
                obtain⟨rfl,rfl⟩:=Prod.mk.inj (Option.some.inj H5)
                have cBb:((rd_T71 a i).f1==rd ws 0)=false:=beq_eq_false_iff_ne.mpr cB
                clear H5 cB
                go_wp2_with (first|(go_at_call 82;refine(impl_reach.vcalls (rd_T71 a i).f1 i false gO gW out' ws' o3 w3 w _ HB_.out S_.out B5.out).mono ?_;rintro e wy ⟨rfl,h1,h2,h3⟩;have z:=am h1;have p:=am (h3 _ _ _ (.inl rfl) BN_.out);have q:=am (h3 _ _ _ (.inr rfl) BP_.out);have d:=am h2;clear h1 h2 h3 S_ BN_ BP_ HB_ u v x m n o g l b c;(try replace hfl:=hcl d.out hfw);have S_:=z;have BN_:=p;have BP_:=q;have HB_:=d;clear z p q d;obtain⟨u,v,x,m,n,o⟩:=cf3 BP_.out;obtain⟨g,l,b,c⟩:=cf2 BN_.out))
                go_roundg k2
                case measure=>have:=y.out;omega
                case rel=>exact⟨_,_,wrap64 (i+1),es,H4,⟨by have:=y.out;omega⟩,S_,BN_,HB_⟩
              ·rw[if_neg cD]at H5
               obtain⟨rfl,rfl⟩:=Prod.mk.inj (Option.some.inj H5)
               have cDb:decide (rd l2 i<(rd_T71 a i).f2)=false:=decide_eq_false cD
               clear H5 cA cl cD
               go_region
               have S_:=am (impl_reach.St_drew SD.out)
               have BN_:=am (blk_drew BNd.out)
               have BP_:=am (blk_drew BPd.out)
               have HB_:=am (below_drew1 HBd.out)
               clear SD BNd BPd HBd u v x m n o
               (try clear hfl)
               generalize wd.drew=we at S_ BN_ BP_ HB_⊢
               obtain⟨u,v,x,m,n,o⟩:=cf3 BP_.out
               obtain⟨g,l,b,c⟩:=cf2 BN_.out
               have H5:=B3.out
               clear B3
               by_cases cB:(rd_T71 a i).f1=rd ws 0
               ·rw[if_pos cB]at H5
                have cBb:((rd_T71 a i).f1==rd ws 0)=true:=beq_iff_eq.mpr cB
                by_cases t:i<(l2.length:Int)
                ·rw[if_pos t]at H5
                 have ad:decide (i<(l2.length:Int))=true:=decide_eq_true t
                 have aF:=eq_true t
                 obtain⟨adf,ef,hfw⟩:=Kd.at_int HF.out i (of_eq_true p7) t
                 cases ef
                 have hfl:=hcl HB_.out hfw
                 by_cases cC:0<rd l2 i
                 ·rw[if_pos cC]at H5
                  have B6:=am H5
                  have cCb:decide (0<rd l2 i)=true:=decide_eq_true cC
                  clear H5 cB t cC
                  go_wp2_with (first|(go_at_call 82;refine(impl_reach.vcalls (rd_T71 a i).f0 i true gO gW out' ws' o4 w4 w _ HB_.out S_.out B6.out).mono ?_;rintro e wz ⟨rfl,h1,h2,h3⟩;have z:=am h1;have p:=am (h3 _ _ _ (.inl rfl) BN_.out);have q:=am (h3 _ _ _ (.inr rfl) BP_.out);have d:=am h2;clear h1 h2 h3 S_ BN_ BP_ HB_ u v x m n o g l b c;(try replace hfl:=hcl d.out hfw);have S_:=z;have BN_:=p;have BP_:=q;have HB_:=d;clear z p q d;obtain⟨u,v,x,m,n,o⟩:=cf3 BP_.out;obtain⟨g,l,b,c⟩:=cf2 BN_.out))
                  go_roundg k2
                  case measure=>have:=y.out;omega
                  case rel=>exact⟨_,_,wrap64 (i+1),es,H4,⟨by have:=y.out;omega⟩,S_,BN_,HB_⟩
                 ·rw[if_neg cC]at H5
                  obtain⟨rfl,rfl⟩:=Prod.mk.inj (Option.some.inj H5)
                  have cCb:decide (0<rd l2 i)=false:=decide_eq_false cC
                  clear H5 cB t cC
                  go_wp2
                  go_roundg k2
                  case measure=>have:=y.out;omega
                  case rel=>exact⟨_,_,wrap64 (i+1),es,H4,⟨by have:=y.out;omega⟩,S_,BN_,HB_⟩
                ·rw[if_neg t]at H5
                 exact absurd H5 (by simp)
               ·rw[if_neg cB]at H5
                obtain⟨rfl,rfl⟩:=Prod.mk.inj (Option.some.inj H5)
                have cBb:((rd_T71 a i).f1==rd ws 0)=false:=beq_eq_false_iff_ne.mpr cB
                clear H5 cB
                go_wp2
                go_roundg k2
                case measure=>have:=y.out;omega
                case rel=>exact⟨_,_,wrap64 (i+1),es,H4,⟨by have:=y.out;omega⟩,S_,BN_,HB_⟩
             ·rw[if_neg cl]at H5
              exact absurd H5 (by simp)
            ·rw[if_neg cA]at H5
             obtain⟨rfl,rfl⟩:=Prod.mk.inj (Option.some.inj H5)
             have cAb:((rd_T71 a i).f0==rd ws 0)=false:=beq_eq_false_iff_ne.mpr cA
             clear H5 cA
             go_region
             have S_:=am (impl_reach.St_drew SD.out)
             have BN_:=am (blk_drew BNd.out)
             have BP_:=am (blk_drew BPd.out)
             have HB_:=am (below_drew1 HBd.out)
             clear SD BNd BPd HBd u v x m n o
             generalize wd.drew=we at S_ BN_ BP_ HB_⊢
             obtain⟨u,v,x,m,n,o⟩:=cf3 BP_.out
             obtain⟨g,l,b,c⟩:=cf2 BN_.out
             have H5:=B3.out
             clear B3
             by_cases cB:(rd_T71 a i).f1=rd ws 0
             ·rw[if_pos cB]at H5
              have cBb:((rd_T71 a i).f1==rd ws 0)=true:=beq_iff_eq.mpr cB
              by_cases t:i<(l2.length:Int)
              ·rw[if_pos t]at H5
               have ad:decide (i<(l2.length:Int))=true:=decide_eq_true t
               have aF:=eq_true t
               obtain⟨adf,ef,hfw⟩:=Kd.at_int HF.out i (of_eq_true p7) t
               cases ef
               have hfl:=hcl HB_.out hfw
               by_cases cC:0<rd l2 i
               ·rw[if_pos cC]at H5
                have B6:=am H5
                have cCb:decide (0<rd l2 i)=true:=decide_eq_true cC
                clear H5 cB t cC
                go_wp2_with (first|(go_at_call 82;refine(impl_reach.vcalls (rd_T71 a i).f0 i true gO gW out' ws' o4 w4 w _ HB_.out S_.out B6.out).mono ?_;rintro e wz ⟨rfl,h1,h2,h3⟩;have z:=am h1;have p:=am (h3 _ _ _ (.inl rfl) BN_.out);have q:=am (h3 _ _ _ (.inr rfl) BP_.out);have d:=am h2;clear h1 h2 h3 S_ BN_ BP_ HB_ u v x m n o g l b c;(try replace hfl:=hcl d.out hfw);have S_:=z;have BN_:=p;have BP_:=q;have HB_:=d;clear z p q d;obtain⟨u,v,x,m,n,o⟩:=cf3 BP_.out;obtain⟨g,l,b,c⟩:=cf2 BN_.out))
                go_roundg k2
                case measure=>have:=y.out;omega
                case rel=>exact⟨_,_,wrap64 (i+1),es,H4,⟨by have:=y.out;omega⟩,S_,BN_,HB_⟩
               ·rw[if_neg cC]at H5
                obtain⟨rfl,rfl⟩:=Prod.mk.inj (Option.some.inj H5)
                have cCb:decide (0<rd l2 i)=false:=decide_eq_false cC
                clear H5 cB t cC
                go_wp2
                go_roundg k2
                case measure=>have:=y.out;omega
                case rel=>exact⟨_,_,wrap64 (i+1),es,H4,⟨by have:=y.out;omega⟩,S_,BN_,HB_⟩
              ·rw[if_neg t]at H5
               exact absurd H5 (by simp)
             ·rw[if_neg cB]at H5
              obtain⟨rfl,rfl⟩:=Prod.mk.inj (Option.some.inj H5)
              have cBb:((rd_T71 a i).f1==rd ws 0)=false:=beq_eq_false_iff_ne.mpr cB
              clear H5 cB
              go_wp2
              go_roundg k2
              case measure=>have:=y.out;omega
              case rel=>exact⟨_,_,wrap64 (i+1),es,H4,⟨by have:=y.out;omega⟩,S_,BN_,HB_⟩
           ·rw[if_neg c7]at H
            exact absurd H (by simp)
          ·rw[if_neg c6]at H
           obtain⟨rfl,rfl⟩:=Prod.mk.inj (Option.some.inj H)
           have aJ:decide (i<(a.length:Int))=false:=decide_eq_false c6
           clear H c6
           go_wp2
           go_roundg k1
           case measure=>have:=aw.out;omega
           case rel=>exact⟨_,_,H3,⟨by have:=aw.out;omega⟩,SA,BN,HB⟩
       ·rw[if_neg c5]at H
        obtain rfl:=qj1 H
        have aH:decide (0<(ws.length:Int))=false:=decide_eq_false c5
        have aI:decide (0<ws.length)=false:=decide_eq_false (by omega)
        have HO:=am hO
        clear c5 H hO hQ hbO hbW hgO hgW hlw
        go_wp2
        go_ret
        exact⟨_,rfl,HO.out,HB.out⟩
    ·rw[if_neg c3]at h
     exact absurd h (by simp)
   ·rw[if_neg J]at h
    exact absurd h (by simp)
  ·rw[if_neg c1]at h
   exact absurd h (by simp)
 ·rw[if_neg c0]at h
  exact absurd h (by simp)
end Go.Proofs.YtgalpgakdcfilaaGreat.L
