-- Written by a program of this session (wip/xp.py).
import Derived.Test.YtgalpgakdcfilaaGreatL0
namespace Go.Proofs.YtgalpgakdcfilaaGreat.L
open Go.RowKit Go.Proofs.YtgalpgakdcfilaaGreatW.PrintWords Go.Proofs.YtgalpgakdcfilaaGreatW.PrintLast Go.Proofs.YtgalpgakdcfilaaGreatW.PrintMore
attribute [local go_sem] max2_int min2_int max_two min_two max_three min_three max_four min_four
set_option linter.unusedVariables false
set_option linter.unusedSimpArgs false
set_option maxHeartbeats 8000000
set_option maxRecDepth 100000
def laws_eqIntS.l0:Nat→List Int→List Int→Int→Option (Bool)
  |0,_,_,_=>none
  |k+1,x0,x1,x5=>if x5<(x0.length:Int)then(if 0≤x5 then(if x5<(x1.length:Int)then(if(rd x0 x5)=(rd x1 x5)then(laws_eqIntS.l0 k x0 x1 (wrap64 (x5+1)))else(some false))else(none))else(none))else(some true)
def laws_eqIntS.f(k:Nat)(l0:List Int)(l1:List Int):Option (Bool):=if(l0.length:Int)=(l1.length:Int)then(laws_eqIntS.l0 k l0 l1 0)else(some false)
theorem laws_eqIntS.calls(k:Nat)(A0:Option Addr)(c0:Nat)(l0:List Int)(A1:Option Addr)(c1:Nat)(l1:List Int)(r:Bool)(w:World)(i:Kd.C (Kd.int .i64) w A0 l0.length l0)(q:l0.length≤c0)(j:Kd.C (Kd.int .i64) w A1 l1.length l1)(s:l1.length≤c1)(h:laws_eqIntS.f k l0 l1=some r):Calls Tryz.prog 9 #[.slice A0 l0.length c0,.slice A1 l1.length c1] w fun e w'=>e=.returned (.bool r)∧Drawn0 w w':=by
 replace i:=am i
 replace q:=am q
 replace j:=am j
 replace s:=am s
 have H:=h
 unfold laws_eqIntS.f at H
 clear h
 by_cases c3:(l0.length:Int)=(l1.length:Int)
 ·rw[if_pos c3]at H
  have l:((l0.length:Int)==(l1.length:Int))=true:=beq_iff_eq.mpr c3
  have m:((l0.length:Int) != (l1.length:Int))=false:=bne_eq_false_iff_eq.mpr c3
  have n:(l0.length==l1.length)=true:=by first|simpa using c3|(simp at c3⊢;omega)
  clear c3
  replace H:=am H
  go_enter Tryz.func9,Tryz.ntmps9
  go_wp2
  repeat (go_quiet (fail);try go_wp2)
  go_loopg [5] k (fun kq v5 w'=>∃(a:Int),v5=.int .i64 a∧Aside0 (laws_eqIntS.l0 kq l0 l1 a=some r)∧Aside0 (kq≤k)∧Drawn0 w w')
  case atStart=>exact⟨(0),(es),H,⟨Nat.le_refl _⟩,by repeat (first|exact Drawn0.refl _|apply Drawn0.step)⟩
  case round=>
   clear H
   try clear c1;try clear c3;try clear l;try clear m;try clear n
   obtain⟨a,rfl,HA,t,⟨m1,rfl⟩⟩:=hrel
   cases gk with
   |zero=>exact absurd HA.out (by simp [laws_eqIntS.l0])
   |succ k1=>
    have H:=HA.out
    clear HA
    simp only[laws_eqIntS.l0]at H
    replace H:=i1 H;obtain⟨u,H⟩|⟨u,H⟩:=H
    ·replace H:=i0 H;obtain⟨y,H⟩:=H
     replace H:=i0 H;obtain⟨z,H⟩:=H
     replace H:=ie H;obtain⟨v,x,H⟩|⟨⟨c7,v,x⟩,H⟩:=H
     ·replace H:=am H
      have:(0≤(a:Int))=True:=ab
      have:(a<(l0.length:Int))=True:=ab
      obtain⟨o,b,d⟩:=Kd.at_int i.out a asm asm
      cases b
      have:(0≤(a:Int))=True:=ab
      have:(a<(l1.length:Int))=True:=ab
      obtain⟨p,c,g⟩:=Kd.at_int j.out a asm asm
      cases c
      go_wp2
      repeat (go_quiet (fail);try go_wp2)
      go_roundg k1
      case measure=>have:=t.out;omega
      case rel=>exact⟨(wrap64 (a+1)),(es),H,⟨by have:=t.out;omega⟩,by repeat (first|exact Drawn0.refl _|apply Drawn0.step)⟩
     ·obtain rfl:=qj1 H
      have:(0≤(a:Int))=True:=ab
      have:(a<(l0.length:Int))=True:=ab
      obtain⟨o,b,d⟩:=Kd.at_int i.out a asm asm
      cases b
      have:(0≤(a:Int))=True:=ab
      have:(a<(l1.length:Int))=True:=ab
      obtain⟨p,c,g⟩:=Kd.at_int j.out a asm asm
      cases c
      go_wp2
      repeat (go_quiet (fail);try go_wp2)
      go_ret
      exact⟨es,by repeat (first|exact Drawn0.refl _|apply Drawn0.step)⟩
    ·obtain rfl:=qj1 H
     go_wp2
     repeat (go_quiet (fail);try go_wp2)
     go_ret
     exact⟨es,by repeat (first|exact Drawn0.refl _|apply Drawn0.step)⟩
 ·rw[if_neg c3]at H
  have l:((l0.length:Int)==(l1.length:Int))=false:=beq_eq_false_iff_ne.mpr c3
  have m:((l0.length:Int) != (l1.length:Int))=true:=bne_iff_ne.mpr c3
  have n:(l0.length==l1.length)=false:=by first|simpa using c3|(simp at c3⊢;omega)
  obtain rfl:=qj1 H
  go_enter Tryz.func9,Tryz.ntmps9
  go_wp2
  repeat (go_quiet (fail);try go_wp2)
  go_ret
  exact⟨es,by repeat (first|exact Drawn0.refl _|apply Drawn0.step)⟩
def laws_eqTeam.f(a:ByteArray)(b:Int)(c:Int)(d:ByteArray)(e:Int)(g:Int):Option (Bool):=if a.toList=d.toList then(if b=e then(if c=g then(some true)else(some false))else(some false))else(some false)
theorem laws_eqTeam.calls(c:ByteArray)(j:Int)(k:Int)(d:ByteArray)(l:Int)(m:Int)(r:Bool)(w:World)(h:laws_eqTeam.f c j k d l m=some r):Calls Tryz.prog 48 #[.agg #[.string c,.int .i64 j,.int .i64 k],.agg #[.string d,.int .i64 l,.int .i64 m]] w fun e w'=>e=.returned (.bool r)∧Below w.heap.size w w':=by
 have z:=Tryz.underlying83
 have HB:=qb w
 have H:=h
 unfold laws_eqTeam.f at H
 clear h
 by_cases c3:c.toList=d.toList
 ·rw[if_pos c3]at H
  have s:(c.toList==d.toList)=true:=beq_iff_eq.mpr c3
  have t:(c.toList != d.toList)=false:=bne_eq_false_iff_eq.mpr c3
  clear c3
  replace H:=ie H;obtain⟨u,v,H⟩|⟨⟨c4,u,v⟩,H⟩:=H
  ·replace H:=ie H;obtain⟨x,y,H⟩|⟨⟨c5,x,y⟩,H⟩:=H
   ·obtain rfl:=qj1 H
    go_enter Tryz.func48,Tryz.ntmps48
    go_wp2_with (first|((with_reducible refine gd 2 ?_);refine bx w 2 #[.string c,.int .i64 j,.int .i64 k] 83 ?_;clear HB;intro p w6 a n HB)|((with_reducible refine gd 3 ?_);refine by_ w 3 #[.string d,.int .i64 l,.int .i64 m] 83 ?_;clear HB;intro q hg w7 g o hb HB;obtain⟨b,i⟩:=qn hg a;replace a:=b1 a hb;clear hb hg;obtain⟨_,_⟩:=qo b;obtain⟨_,_,_,_,_,_⟩:=cf3 a.out;obtain⟨_,_,_,_,_,_⟩:=cf3 g.out))
    go_ret
    exact⟨er,bel⟩
   ·obtain rfl:=qj1 H
    go_enter Tryz.func48,Tryz.ntmps48
    go_wp2_with (first|((with_reducible refine gd 2 ?_);refine bx w 2 #[.string c,.int .i64 j,.int .i64 k] 83 ?_;clear HB;intro p A a n HB)|((with_reducible refine gd 3 ?_);refine by_ w 3 #[.string d,.int .i64 l,.int .i64 m] 83 ?_;clear HB;intro q hg B g o hb HB;obtain⟨b,i⟩:=qn hg a;replace a:=b1 a hb;clear hb hg;obtain⟨_,_⟩:=qo b;obtain⟨_,_,_,_,_,_⟩:=cf3 a.out;obtain⟨_,_,_,_,_,_⟩:=cf3 g.out))
    go_ret
    exact⟨er,bel⟩
  ·obtain rfl:=qj1 H
   go_enter Tryz.func48,Tryz.ntmps48
   go_wp2_with (first|((with_reducible refine gd 2 ?_);refine bx w 2 #[.string c,.int .i64 j,.int .i64 k] 83 ?_;clear HB;intro p D a n HB)|((with_reducible refine gd 3 ?_);refine by_ w 3 #[.string d,.int .i64 l,.int .i64 m] 83 ?_;clear HB;intro q hg E g o hb HB;obtain⟨b,i⟩:=qn hg a;replace a:=b1 a hb;clear hb hg;obtain⟨_,_⟩:=qo b;obtain⟨_,_,_,_,_,_⟩:=cf3 a.out;obtain⟨_,_,_,_,_,_⟩:=cf3 g.out))
   go_ret
   exact⟨er,bel⟩
 ·rw[if_neg c3]at H
  have s:(c.toList==d.toList)=false:=beq_eq_false_iff_ne.mpr c3
  have t:(c.toList != d.toList)=true:=bne_iff_ne.mpr c3
  obtain rfl:=qj1 H
  go_enter Tryz.func48,Tryz.ntmps48
  go_wp2_with (first|((with_reducible refine gd 2 ?_);refine bx w 2 #[.string c,.int .i64 j,.int .i64 k] 83 ?_;clear HB;intro p G a n HB)|((with_reducible refine gd 3 ?_);refine by_ w 3 #[.string d,.int .i64 l,.int .i64 m] 83 ?_;clear HB;intro q hg I g o hb HB;obtain⟨b,i⟩:=qn hg a;replace a:=b1 a hb;clear hb hg;obtain⟨_,_⟩:=qo b;obtain⟨_,_,_,_,_,_⟩:=cf3 a.out;obtain⟨_,_,_,_,_,_⟩:=cf3 g.out))
  go_ret
  exact⟨er,bel⟩
def laws_eqTeamS.l0:Nat→List (S83)→List (S83)→Int→Option (Bool)
  |0,_,_,_=>none
  |k+1,x0,x1,x5=>if x5<(x0.length:Int)then(if 0≤x5 then(if x5<(x1.length:Int)then((laws_eqTeam.f ((rd_T83 x0 x5).f0) ((rd_T83 x0 x5).f1) ((rd_T83 x0 x5).f2) ((rd_T83 x1 x5).f0) ((rd_T83 x1 x5).f1) ((rd_T83 x1 x5).f2)).bind fun a=>(if a=true then(laws_eqTeamS.l0 k x0 x1 (wrap64 (x5+1)))else(some false)))else(none))else(none))else(some true)
def laws_eqTeamS.f(k:Nat)(l0:List (S83))(l1:List (S83)):Option (Bool):=if(l0.length:Int)=(l1.length:Int)then(laws_eqTeamS.l0 k l0 l1 0)else(some false)
def laws_eqTeamS.T6:Bool×List (List Nat×List Nat):=(true,[([],[]),([],[]),([0,1],[0,1]),([2],[2]),([],[]),([],[]),([4,5],[4,5]),([6],[6]),([3,7],[3,7]),([8],[8])])
def laws_eqTeamS.B6:List Nat:=[0,0,3,7,0,0,48,112,255,511]
theorem laws_eqTeamS.tab6:rtab .any (opsOf Tryz.f27 6)=laws_eqTeamS.T6:=by kernel_rfl
theorem laws_eqTeamS.bits6:waitsOk laws_eqTeamS.T6.2 laws_eqTeamS.B6=true:=by kernel_rfl
theorem laws_eqTeamS.calls(k:Nat)(A0:Option Addr)(c0:Nat)(l0:List (S83))(A1:Option Addr)(c1:Nat)(l1:List (S83))(r:Bool)(w:World)(y:Kd.C k83 w A0 l0.length l0)(E:l0.length≤c0)(z:Kd.C k83 w A1 l1.length l1)(G:l1.length≤c1)(h:laws_eqTeamS.f k l0 l1=some r):Calls Tryz.prog 27 #[.slice A0 l0.length c0,.slice A1 l1.length c1] w fun e w'=>e=.returned (.bool r)∧Below w.heap.size w w':=by
 have O:=Tryz.underlying83
 replace y:=am y
 replace E:=am E
 replace z:=am z
 replace G:=am G
 have HB:=qb w
 have H:=h
 unfold laws_eqTeamS.f at H
 clear h
 by_cases c3:(l0.length:Int)=(l1.length:Int)
 ·rw[if_pos c3]at H
  have A:((l0.length:Int)==(l1.length:Int))=true:=beq_iff_eq.mpr c3
  have B:((l0.length:Int) != (l1.length:Int))=false:=bne_eq_false_iff_eq.mpr c3
  have D:(l0.length==l1.length)=true:=by first|simpa using c3|(simp at c3⊢;omega)
  clear c3
  replace H:=am H
  go_enter Tryz.func27,Tryz.ntmps27
  go_wp2
  go_loopg [5] k (fun kq v5 w'=>∃(a:Int),v5=.int .i64 a∧Aside0 (laws_eqTeamS.l0 kq l0 l1 a=some r)∧Aside0 (kq≤k)∧Aside0 (Below w.heap.size w w'))
  case atStart=>exact⟨(0),(es),H,⟨Nat.le_refl _⟩,⟨bel⟩⟩
  case round=>
   clear H
   try clear c1;try clear c3;try clear A;try clear B;try clear D
   obtain⟨a,rfl,HA,I,HB⟩:=hrel
   cases gk with
   |zero=>exact absurd HA.out (by simp [laws_eqTeamS.l0])
   |succ k1=>
    have H:=HA.out
    clear HA
    simp only[laws_eqTeamS.l0]at H
    replace H:=i1 H;obtain⟨J,H⟩|⟨J,H⟩:=H
    ·replace H:=i0 H;obtain⟨L,H⟩:=H
     replace H:=i0 H;obtain⟨M,H⟩:=H
     replace H:=bm H;obtain⟨P,A7,H⟩:=H
     replace H:=ib H;obtain⟨rfl,H⟩|⟨rfl,H⟩:=H
     ·replace H:=am H
      try go_wp2
      replace HB:=am (below_drew1 HB.out)
      have:(0≤(a:Int))=True:=ab
      have:(a<(l0.length:Int))=True:=ab
      obtain⟨t,v,l,m,o⟩:=at_T83 y.out a asm asm
      have d:=o
      have c:=m
      have b:=l
      cases v
      replace l:=hcl HB.out l
      replace m:=hcl HB.out m
      replace o:=hcl HB.out o
      have:(0≤(a:Int))=True:=ab
      have:(a<(l1.length:Int))=True:=ab
      obtain⟨u,x,p,q,s⟩:=at_T83 z.out a asm asm
      have j:=s
      have i:=q
      have g:=p
      cases x
      replace p:=hcl HB.out p
      replace q:=hcl HB.out q
      replace s:=hcl HB.out s
      refine start_ (n:=10) (S:=fun w'=>w'.cell? (t.add ((a).toNat*3))=some (.string ((rd_T83 l0 a).f0))∧w'.cell? ⟨(t.add ((a).toNat*3)).block,(t.add ((a).toNat*3)).off+1,none⟩=some (.int .i64 ((rd_T83 l0 a).f1))∧w'.cell? ⟨(t.add ((a).toNat*3)).block,(t.add ((a).toNat*3)).off+2,none⟩=some (.int .i64 ((rd_T83 l0 a).f2))∧w'.cell? (u.add ((a).toNat*3))=some (.string ((rd_T83 l1 a).f0))∧w'.cell? ⟨(u.add ((a).toNat*3)).block,(u.add ((a).toNat*3)).off+1,none⟩=some (.int .i64 ((rd_T83 l1 a).f1))∧w'.cell? ⟨(u.add ((a).toNat*3)).block,(u.add ((a).toNat*3)).off+2,none⟩=some (.int .i64 ((rd_T83 l1 a).f2))) (ds:=[]) (lb 10 0) (by kernel_rfl) rfl rfl ⟨((HB.out.cell (World.block_lt_of_cell? w _ b)).trans b),((HB.out.cell (World.block_lt_of_cell? w _ c)).trans c),((HB.out.cell (World.block_lt_of_cell? w _ d)).trans d),((HB.out.cell (World.block_lt_of_cell? w _ g)).trans g),((HB.out.cell (World.block_lt_of_cell? w _ i)).trans i),((HB.out.cell (World.block_lt_of_cell? w _ j)).trans j)⟩ (fun hHeld=>?_);refine with_tabW laws_eqTeamS.tab6 laws_eqTeamS.bits6 (fun HT_ HW_=>?_)
      generalize wr.drew=w9 at HB l m o p q s hHeld⊢
      refine pu HT_ 0 17 (lb 10 1) ?_
      refine pu HT_ 1 18 (lb 10 3) ?_
      refine pu HT_ 2 19 (lb 10 7) ?_
      refine pu HT_ 4 21 (lb 10 23) ?_
      refine pu HT_ 5 22 (lb 10 55) ?_
      refine pu HT_ 6 23 (lb 10 119) ?_
      refine tk HT_ HW_ hHeld 3 20 (lb 10 127) ?_
      refine tk HT_ HW_ hHeld 7 24 (lb 10 255) ?_
      refine on HT_ 8 25 (lb 10 511) fun K hK=>?_
      refine goes_ Tryz.func48 (by kernel_rfl) rfl #[.agg #[.string ((rd_T83 l0 a).f0),.int .i64 ((rd_T83 l0 a).f1),.int .i64 ((rd_T83 l0 a).f2)],.agg #[.string ((rd_T83 l1 a).f0),.int .i64 ((rd_T83 l1 a).f1),.int .i64 ((rd_T83 l1 a).f2)]] (by rfl) rfl rfl ga ?_
      with_reducible refine(laws_eqTeam.calls ((rd_T83 l0 a).f0) ((rd_T83 l0 a).f1) ((rd_T83 l0 a).f2) ((rd_T83 l1 a).f0) ((rd_T83 l1 a).f1) ((rd_T83 l1 a).f2) true _ A7.out).mono ?_
      rintro e T ⟨rfl,hb⟩
      refine⟨_,rfl,?_⟩
      replace HB:=b2 hb
      (try clear hb)
      refine hK.out _ _ ⟨((HB.out.cell (World.block_lt_of_cell? w _ b)).trans b),((HB.out.cell (World.block_lt_of_cell? w _ c)).trans c),((HB.out.cell (World.block_lt_of_cell? w _ d)).trans d),((HB.out.cell (World.block_lt_of_cell? w _ g)).trans g),((HB.out.cell (World.block_lt_of_cell? w _ i)).trans i),((HB.out.cell (World.block_lt_of_cell? w _ j)).trans j)⟩ (fun hHeld=>?_)
      clear hK K
      refine nm 25 ?_
      refine pu HT_ 9 26 (lb 10 1023) ?_
      refine done_ (done_of HT_.out (by kernel_rfl)) ?_
      try go_wp2
      go_roundg k1
      case measure=>have:=I.out;omega
      case rel=>exact⟨(wrap64 (a+1)),(es),H,⟨by have:=I.out;omega⟩,⟨bel⟩⟩
     ·obtain rfl:=qj1 H
      try go_wp2
      replace HB:=am (below_drew1 HB.out)
      have:(0≤(a:Int))=True:=ab
      have:(a<(l0.length:Int))=True:=ab
      obtain⟨t,v,l,m,o⟩:=at_T83 y.out a asm asm
      have d:=o
      have c:=m
      have b:=l
      cases v
      replace l:=hcl HB.out l
      replace m:=hcl HB.out m
      replace o:=hcl HB.out o
      have:(0≤(a:Int))=True:=ab
      have:(a<(l1.length:Int))=True:=ab
      obtain⟨u,x,p,q,s⟩:=at_T83 z.out a asm asm
      have j:=s
      have i:=q
      have g:=p
      cases x
      replace p:=hcl HB.out p
      replace q:=hcl HB.out q
      replace s:=hcl HB.out s
      refine start_ (n:=10) (S:=fun w'=>w'.cell? (t.add ((a).toNat*3))=some (.string ((rd_T83 l0 a).f0))∧w'.cell? ⟨(t.add ((a).toNat*3)).block,(t.add ((a).toNat*3)).off+1,none⟩=some (.int .i64 ((rd_T83 l0 a).f1))∧w'.cell? ⟨(t.add ((a).toNat*3)).block,(t.add ((a).toNat*3)).off+2,none⟩=some (.int .i64 ((rd_T83 l0 a).f2))∧w'.cell? (u.add ((a).toNat*3))=some (.string ((rd_T83 l1 a).f0))∧w'.cell? ⟨(u.add ((a).toNat*3)).block,(u.add ((a).toNat*3)).off+1,none⟩=some (.int .i64 ((rd_T83 l1 a).f1))∧w'.cell? ⟨(u.add ((a).toNat*3)).block,(u.add ((a).toNat*3)).off+2,none⟩=some (.int .i64 ((rd_T83 l1 a).f2))) (ds:=[]) (lb 10 0) (by kernel_rfl) rfl rfl ⟨((HB.out.cell (World.block_lt_of_cell? w _ b)).trans b),((HB.out.cell (World.block_lt_of_cell? w _ c)).trans c),((HB.out.cell (World.block_lt_of_cell? w _ d)).trans d),((HB.out.cell (World.block_lt_of_cell? w _ g)).trans g),((HB.out.cell (World.block_lt_of_cell? w _ i)).trans i),((HB.out.cell (World.block_lt_of_cell? w _ j)).trans j)⟩ (fun hHeld=>?_);refine with_tabW laws_eqTeamS.tab6 laws_eqTeamS.bits6 (fun HT_ HW_=>?_)
      generalize wr.drew=U at HB l m o p q s hHeld⊢
      refine pu HT_ 0 17 (lb 10 1) ?_
      refine pu HT_ 1 18 (lb 10 3) ?_
      refine pu HT_ 2 19 (lb 10 7) ?_
      refine pu HT_ 4 21 (lb 10 23) ?_
      refine pu HT_ 5 22 (lb 10 55) ?_
      refine pu HT_ 6 23 (lb 10 119) ?_
      refine tk HT_ HW_ hHeld 3 20 (lb 10 127) ?_
      refine tk HT_ HW_ hHeld 7 24 (lb 10 255) ?_
      refine on HT_ 8 25 (lb 10 511) fun K hK=>?_
      refine goes_ Tryz.func48 (by kernel_rfl) rfl #[.agg #[.string ((rd_T83 l0 a).f0),.int .i64 ((rd_T83 l0 a).f1),.int .i64 ((rd_T83 l0 a).f2)],.agg #[.string ((rd_T83 l1 a).f0),.int .i64 ((rd_T83 l1 a).f1),.int .i64 ((rd_T83 l1 a).f2)]] (by rfl) rfl rfl ga ?_
      with_reducible refine(laws_eqTeam.calls ((rd_T83 l0 a).f0) ((rd_T83 l0 a).f1) ((rd_T83 l0 a).f2) ((rd_T83 l1 a).f0) ((rd_T83 l1 a).f1) ((rd_T83 l1 a).f2) false _ A7.out).mono ?_
      rintro e W ⟨rfl,hb⟩
      refine⟨_,rfl,?_⟩
      replace HB:=b2 hb
      (try clear hb)
      refine hK.out _ _ ⟨((HB.out.cell (World.block_lt_of_cell? w _ b)).trans b),((HB.out.cell (World.block_lt_of_cell? w _ c)).trans c),((HB.out.cell (World.block_lt_of_cell? w _ d)).trans d),((HB.out.cell (World.block_lt_of_cell? w _ g)).trans g),((HB.out.cell (World.block_lt_of_cell? w _ i)).trans i),((HB.out.cell (World.block_lt_of_cell? w _ j)).trans j)⟩ (fun hHeld=>?_)
      clear hK K
      refine nm 25 ?_
      refine pu HT_ 9 26 (lb 10 1023) ?_
      refine done_ (done_of HT_.out (by kernel_rfl)) ?_
      try go_wp2
      go_ret
      exact⟨er,bel⟩
    ·obtain rfl:=qj1 H
     go_wp2
     go_ret
     exact⟨er,bel⟩
 ·rw[if_neg c3]at H
  have A:((l0.length:Int)==(l1.length:Int))=false:=beq_eq_false_iff_ne.mpr c3
  have B:((l0.length:Int) != (l1.length:Int))=true:=bne_iff_ne.mpr c3
  have D:(l0.length==l1.length)=false:=by first|simpa using c3|(simp at c3⊢;omega)
  obtain rfl:=qj1 H
  go_enter Tryz.func27,Tryz.ntmps27
  go_wp2
  go_ret
  exact⟨er,bel⟩
def laws_eqRules.f(k:Nat)(a:Int)(b:Int)(c:Int)(j:List Int)(d:Bool)(e:Int)(g:Int)(h:Int)(l:List Int)(i:Bool):Option (Bool):=if a=e then(if b=g then(if c=h then((laws_eqIntS.f k j l).bind fun m=>(if m=true then(if(d != i)=true then(some false)else(some true))else(some false)))else(some false))else(some false))else(some false)
theorem laws_eqRules.calls(k:Nat)(o:Int)(p:Int)(q:Int)(m:Option Addr)(v:Nat)(j:List Int)(c:Bool)(s:Int)(t:Int)(u:Int)(n:Option Addr)(x:Nat)(l:List Int)(d:Bool)(r:Bool)(w:World)(D:Kd.C (Kd.int .i64) w m j.length j)(A:j.length≤v)(E:Kd.C (Kd.int .i64) w n l.length l)(B:l.length≤x)(h:laws_eqRules.f k o p q j c s t u l d=some r):Calls Tryz.prog 28 #[.agg #[.int .i64 o,.int .i64 p,.int .i64 q,.slice m j.length v,.bool c],.agg #[.int .i64 s,.int .i64 t,.int .i64 u,.slice n l.length x,.bool d]] w fun e w'=>e=.returned (.bool r)∧Below w.heap.size w w':=by
 have Y:=Tryz.underlying32
 replace D:=am D
 replace A:=am A
 replace E:=am E
 replace B:=am B
 have HB:=qb w
 have H:=h
 unfold laws_eqRules.f at H
 clear h
 replace H:=ie H;obtain⟨J,K,H⟩|⟨⟨c3,J,K⟩,H⟩:=H
 ·replace H:=ie H;obtain⟨L,M,H⟩|⟨⟨c4,L,M⟩,H⟩:=H
  ·replace H:=ie H;obtain⟨O,P,H⟩|⟨⟨c5,O,P⟩,H⟩:=H
   ·replace H:=bm H;obtain⟨Z,A6,H⟩:=H
    replace H:=ib H;obtain⟨rfl,H⟩|⟨rfl,H⟩:=H
    ·by_cases c8:(c != d)=true
     ·rw[if_pos c8]at H
      have T:(c != d)=true:=c8
      (try (have U:decide (c=d)=false:=by simpa using c8))
      (try (have W:(c==d)=false:=by simpa using c8))
      (try (have X:¬(c=d):=by simpa using c8))
      clear c8
      obtain rfl:=qj1 H
      go_enter Tryz.func28,Tryz.ntmps28
      go_wp2_with (first|((with_reducible refine gd 2 ?_);refine bx w 2 #[.int .i64 o,.int .i64 p,.int .i64 q,.slice m j.length v,.bool c] 32 ?_;clear HB;intro G w9 a y HB)|((with_reducible refine gd 3 ?_);refine by_ w 3 #[.int .i64 s,.int .i64 t,.int .i64 u,.slice n l.length x,.bool d] 32 ?_;clear HB;intro I hg aa g z hb HB;obtain⟨b,i⟩:=qn hg a;replace a:=b1 a hb;clear hb hg;obtain⟨_,_⟩:=qo b;obtain⟨_,_,_,_,_,_,_,_,_,_⟩:=cf5 a.out;obtain⟨_,_,_,_,_,_,_,_,_,_⟩:=cf5 g.out)|((with_reducible refine gc 9 ?_);refine gl 24 Tryz.func9 (laws_eqIntS.calls k _ _ j _ _ l true _ (cb D HB) A.out (cb E HB) B.out A6.out) ?_;rintro e w' ⟨rfl,⟨nd,rfl⟩⟩;refine⟨_,rfl,?_⟩))
      go_ret
      exact⟨er,bel⟩
     ·rw[if_neg c8]at H
      have T:(c != d)=false:=by simpa using c8
      (try (have U:decide (c=d)=true:=by simpa using c8))
      (try (have W:(c==d)=true:=by simpa using c8))
      clear c8
      obtain rfl:=qj1 H
      go_enter Tryz.func28,Tryz.ntmps28
      go_wp2_with (first|((with_reducible refine gd 2 ?_);refine bx w 2 #[.int .i64 o,.int .i64 p,.int .i64 q,.slice m j.length v,.bool c] 32 ?_;clear HB;intro G ac a y HB)|((with_reducible refine gd 3 ?_);refine by_ w 3 #[.int .i64 s,.int .i64 t,.int .i64 u,.slice n l.length x,.bool d] 32 ?_;clear HB;intro I hg ad g z hb HB;obtain⟨b,i⟩:=qn hg a;replace a:=b1 a hb;clear hb hg;obtain⟨_,_⟩:=qo b;obtain⟨_,_,_,_,_,_,_,_,_,_⟩:=cf5 a.out;obtain⟨_,_,_,_,_,_,_,_,_,_⟩:=cf5 g.out)|((with_reducible refine gc 9 ?_);refine gl 24 Tryz.func9 (laws_eqIntS.calls k _ _ j _ _ l true _ (cb D HB) A.out (cb E HB) B.out A6.out) ?_;rintro e w' ⟨rfl,⟨nd,rfl⟩⟩;refine⟨_,rfl,?_⟩))
      go_ret
      exact⟨er,bel⟩
    ·obtain rfl:=qj1 H
     go_enter Tryz.func28,Tryz.ntmps28
     go_wp2_with (first|((with_reducible refine gd 2 ?_);refine bx w 2 #[.int .i64 o,.int .i64 p,.int .i64 q,.slice m j.length v,.bool c] 32 ?_;clear HB;intro G ae a y HB)|((with_reducible refine gd 3 ?_);refine by_ w 3 #[.int .i64 s,.int .i64 t,.int .i64 u,.slice n l.length x,.bool d] 32 ?_;clear HB;intro I hg af g z hb HB;obtain⟨b,i⟩:=qn hg a;replace a:=b1 a hb;clear hb hg;obtain⟨_,_⟩:=qo b;obtain⟨_,_,_,_,_,_,_,_,_,_⟩:=cf5 a.out;obtain⟨_,_,_,_,_,_,_,_,_,_⟩:=cf5 g.out)|((with_reducible refine gc 9 ?_);refine gl 24 Tryz.func9 (laws_eqIntS.calls k _ _ j _ _ l false _ (cb D HB) A.out (cb E HB) B.out A6.out) ?_;rintro e w' ⟨rfl,⟨nd,rfl⟩⟩;refine⟨_,rfl,?_⟩))
     go_ret
     exact⟨er,bel⟩
   ·obtain rfl:=qj1 H
    go_enter Tryz.func28,Tryz.ntmps28
    go_wp2_with (first|((with_reducible refine gd 2 ?_);refine bx w 2 #[.int .i64 o,.int .i64 p,.int .i64 q,.slice m j.length v,.bool c] 32 ?_;clear HB;intro G ag a y HB)|((with_reducible refine gd 3 ?_);refine by_ w 3 #[.int .i64 s,.int .i64 t,.int .i64 u,.slice n l.length x,.bool d] 32 ?_;clear HB;intro I hg ah g z hb HB;obtain⟨b,i⟩:=qn hg a;replace a:=b1 a hb;clear hb hg;obtain⟨_,_⟩:=qo b;obtain⟨_,_,_,_,_,_,_,_,_,_⟩:=cf5 a.out;obtain⟨_,_,_,_,_,_,_,_,_,_⟩:=cf5 g.out))
    go_ret
    exact⟨er,bel⟩
  ·obtain rfl:=qj1 H
   go_enter Tryz.func28,Tryz.ntmps28
   go_wp2_with (first|((with_reducible refine gd 2 ?_);refine bx w 2 #[.int .i64 o,.int .i64 p,.int .i64 q,.slice m j.length v,.bool c] 32 ?_;clear HB;intro G ai a y HB)|((with_reducible refine gd 3 ?_);refine by_ w 3 #[.int .i64 s,.int .i64 t,.int .i64 u,.slice n l.length x,.bool d] 32 ?_;clear HB;intro I hg aj g z hb HB;obtain⟨b,i⟩:=qn hg a;replace a:=b1 a hb;clear hb hg;obtain⟨_,_⟩:=qo b;obtain⟨_,_,_,_,_,_,_,_,_,_⟩:=cf5 a.out;obtain⟨_,_,_,_,_,_,_,_,_,_⟩:=cf5 g.out))
   go_ret
   exact⟨er,bel⟩
 ·obtain rfl:=qj1 H
  go_enter Tryz.func28,Tryz.ntmps28
  go_wp2_with (first|((with_reducible refine gd 2 ?_);refine bx w 2 #[.int .i64 o,.int .i64 p,.int .i64 q,.slice m j.length v,.bool c] 32 ?_;clear HB;intro G ak a y HB)|((with_reducible refine gd 3 ?_);refine by_ w 3 #[.int .i64 s,.int .i64 t,.int .i64 u,.slice n l.length x,.bool d] 32 ?_;clear HB;intro I hg al g z hb HB;obtain⟨b,i⟩:=qn hg a;replace a:=b1 a hb;clear hb hg;obtain⟨_,_⟩:=qo b;obtain⟨_,_,_,_,_,_,_,_,_,_⟩:=cf5 a.out;obtain⟨_,_,_,_,_,_,_,_,_,_⟩:=cf5 g.out))
  go_ret
  exact⟨er,bel⟩
def laws_eqGame.f(a:Int)(b:Int)(c:Int)(d:Int)(e:Int)(g:Int)(h:Int)(i:Int)(j:Int)(k:Int):Option (Bool):=if a=g then(if b=h then(if c=i then(if d=j then(if e=k then(some true)else(some false))else(some false))else(some false))else(some false))else(some false)
theorem laws_eqGame.calls(g:Int)(i:Int)(j:Int)(k:Int)(l:Int)(m:Int)(n:Int)(o:Int)(p:Int)(q:Int)(r:Bool)(w:World)(h:laws_eqGame.f g i j k l m n o p q=some r):Calls Tryz.prog 49 #[.agg #[.int .i64 g,.int .i64 i,.int .i64 j,.int .i64 k,.int .i64 l],.agg #[.int .i64 m,.int .i64 n,.int .i64 o,.int .i64 p,.int .i64 q]] w fun e w'=>e=.returned (.bool r)∧Below w.heap.size w w':=by
 have K:=Tryz.underlying79
 have HB:=qb w
 have H:=h
 unfold laws_eqGame.f at H
 clear h
 replace H:=ie H;obtain⟨x,y,H⟩|⟨⟨c3,x,y⟩,H⟩:=H
 ·replace H:=ie H;obtain⟨z,A,H⟩|⟨⟨c4,z,A⟩,H⟩:=H
  ·replace H:=ie H;obtain⟨B,D,H⟩|⟨⟨c5,B,D⟩,H⟩:=H
   ·replace H:=ie H;obtain⟨E,G,H⟩|⟨⟨c6,E,G⟩,H⟩:=H
    ·replace H:=ie H;obtain⟨I,J,H⟩|⟨⟨c7,I,J⟩,H⟩:=H
     ·obtain rfl:=qj1 H
      go_enter Tryz.func49,Tryz.ntmps49
      go_wp2_with (first|((with_reducible refine gd 2 ?_);refine bx w 2 #[.int .i64 g,.int .i64 i,.int .i64 j,.int .i64 k,.int .i64 l] 79 ?_;clear HB;intro u w8 a s HB)|((with_reducible refine gd 3 ?_);refine by_ w 3 #[.int .i64 m,.int .i64 n,.int .i64 o,.int .i64 p,.int .i64 q] 79 ?_;clear HB;intro v hg w9 c t hb HB;obtain⟨b,d⟩:=qn hg a;replace a:=b1 a hb;clear hb hg;obtain⟨_,_⟩:=qo b;obtain⟨_,_,_,_,_,_,_,_,_,_⟩:=cf5 a.out;obtain⟨_,_,_,_,_,_,_,_,_,_⟩:=cf5 c.out))
      go_ret
      exact⟨er,bel⟩
     ·obtain rfl:=qj1 H
      go_enter Tryz.func49,Tryz.ntmps49
      go_wp2_with (first|((with_reducible refine gd 2 ?_);refine bx w 2 #[.int .i64 g,.int .i64 i,.int .i64 j,.int .i64 k,.int .i64 l] 79 ?_;clear HB;intro u L a s HB)|((with_reducible refine gd 3 ?_);refine by_ w 3 #[.int .i64 m,.int .i64 n,.int .i64 o,.int .i64 p,.int .i64 q] 79 ?_;clear HB;intro v hg M c t hb HB;obtain⟨b,d⟩:=qn hg a;replace a:=b1 a hb;clear hb hg;obtain⟨_,_⟩:=qo b;obtain⟨_,_,_,_,_,_,_,_,_,_⟩:=cf5 a.out;obtain⟨_,_,_,_,_,_,_,_,_,_⟩:=cf5 c.out))
      go_ret
      exact⟨er,bel⟩
    ·obtain rfl:=qj1 H
     go_enter Tryz.func49,Tryz.ntmps49
     go_wp2_with (first|((with_reducible refine gd 2 ?_);refine bx w 2 #[.int .i64 g,.int .i64 i,.int .i64 j,.int .i64 k,.int .i64 l] 79 ?_;clear HB;intro u O a s HB)|((with_reducible refine gd 3 ?_);refine by_ w 3 #[.int .i64 m,.int .i64 n,.int .i64 o,.int .i64 p,.int .i64 q] 79 ?_;clear HB;intro v hg P c t hb HB;obtain⟨b,d⟩:=qn hg a;replace a:=b1 a hb;clear hb hg;obtain⟨_,_⟩:=qo b;obtain⟨_,_,_,_,_,_,_,_,_,_⟩:=cf5 a.out;obtain⟨_,_,_,_,_,_,_,_,_,_⟩:=cf5 c.out))
     go_ret
     exact⟨er,bel⟩
   ·obtain rfl:=qj1 H
    go_enter Tryz.func49,Tryz.ntmps49
    go_wp2_with (first|((with_reducible refine gd 2 ?_);refine bx w 2 #[.int .i64 g,.int .i64 i,.int .i64 j,.int .i64 k,.int .i64 l] 79 ?_;clear HB;intro u T a s HB)|((with_reducible refine gd 3 ?_);refine by_ w 3 #[.int .i64 m,.int .i64 n,.int .i64 o,.int .i64 p,.int .i64 q] 79 ?_;clear HB;intro v hg U c t hb HB;obtain⟨b,d⟩:=qn hg a;replace a:=b1 a hb;clear hb hg;obtain⟨_,_⟩:=qo b;obtain⟨_,_,_,_,_,_,_,_,_,_⟩:=cf5 a.out;obtain⟨_,_,_,_,_,_,_,_,_,_⟩:=cf5 c.out))
    go_ret
    exact⟨er,bel⟩
  ·obtain rfl:=qj1 H
   go_enter Tryz.func49,Tryz.ntmps49
   go_wp2_with (first|((with_reducible refine gd 2 ?_);refine bx w 2 #[.int .i64 g,.int .i64 i,.int .i64 j,.int .i64 k,.int .i64 l] 79 ?_;clear HB;intro u W a s HB)|((with_reducible refine gd 3 ?_);refine by_ w 3 #[.int .i64 m,.int .i64 n,.int .i64 o,.int .i64 p,.int .i64 q] 79 ?_;clear HB;intro v hg X c t hb HB;obtain⟨b,d⟩:=qn hg a;replace a:=b1 a hb;clear hb hg;obtain⟨_,_⟩:=qo b;obtain⟨_,_,_,_,_,_,_,_,_,_⟩:=cf5 a.out;obtain⟨_,_,_,_,_,_,_,_,_,_⟩:=cf5 c.out))
   go_ret
   exact⟨er,bel⟩
 ·obtain rfl:=qj1 H
  go_enter Tryz.func49,Tryz.ntmps49
  go_wp2_with (first|((with_reducible refine gd 2 ?_);refine bx w 2 #[.int .i64 g,.int .i64 i,.int .i64 j,.int .i64 k,.int .i64 l] 79 ?_;clear HB;intro u Y a s HB)|((with_reducible refine gd 3 ?_);refine by_ w 3 #[.int .i64 m,.int .i64 n,.int .i64 o,.int .i64 p,.int .i64 q] 79 ?_;clear HB;intro v hg Z c t hb HB;obtain⟨b,d⟩:=qn hg a;replace a:=b1 a hb;clear hb hg;obtain⟨_,_⟩:=qo b;obtain⟨_,_,_,_,_,_,_,_,_,_⟩:=cf5 a.out;obtain⟨_,_,_,_,_,_,_,_,_,_⟩:=cf5 c.out))
  go_ret
  exact⟨er,bel⟩
def laws_eqGameS.l0:Nat→List (S79)→List (S79)→Int→Option (Bool)
  |0,_,_,_=>none
  |k+1,x0,x1,x5=>if x5<(x0.length:Int)then(if 0≤x5 then(if x5<(x1.length:Int)then((laws_eqGame.f ((rd_T79 x0 x5).f0) ((rd_T79 x0 x5).f1) ((rd_T79 x0 x5).f2) ((rd_T79 x0 x5).f3) ((rd_T79 x0 x5).f4) ((rd_T79 x1 x5).f0) ((rd_T79 x1 x5).f1) ((rd_T79 x1 x5).f2) ((rd_T79 x1 x5).f3) ((rd_T79 x1 x5).f4)).bind fun a=>(if a=true then(laws_eqGameS.l0 k x0 x1 (wrap64 (x5+1)))else(some false)))else(none))else(none))else(some true)
def laws_eqGameS.f(k:Nat)(l0:List (S79))(l1:List (S79)):Option (Bool):=if(l0.length:Int)=(l1.length:Int)then(laws_eqGameS.l0 k l0 l1 0)else(some false)
def laws_eqGameS.T6:Bool×List (List Nat×List Nat):=(true,[([],[]),([],[]),([0,1],[0,1]),([2],[2]),([],[]),([],[]),([4,5],[4,5]),([6],[6]),([3,7],[3,7]),([8],[8])])
def laws_eqGameS.B6:List Nat:=[0,0,3,7,0,0,48,112,255,511]
theorem laws_eqGameS.tab6:rtab .any (opsOf Tryz.f29 6)=laws_eqGameS.T6:=by kernel_rfl
theorem laws_eqGameS.bits6:waitsOk laws_eqGameS.T6.2 laws_eqGameS.B6=true:=by kernel_rfl
theorem laws_eqGameS.calls(k:Nat)(A0:Option Addr)(c0:Nat)(l0:List (S79))(A1:Option Addr)(c1:Nat)(l1:List (S79))(r:Bool)(w:World)(J:Kd.C k79 w A0 l0.length l0)(T:l0.length≤c0)(L:Kd.C k79 w A1 l1.length l1)(U:l1.length≤c1)(h:laws_eqGameS.f k l0 l1=some r):Calls Tryz.prog 29 #[.slice A0 l0.length c0,.slice A1 l1.length c1] w fun e w'=>e=.returned (.bool r)∧Below w.heap.size w w':=by
 have aa:=Tryz.underlying79
 replace J:=am J
 replace T:=am T
 replace L:=am L
 replace U:=am U
 have HB:=qb w
 have H:=h
 unfold laws_eqGameS.f at H
 clear h
 by_cases c3:(l0.length:Int)=(l1.length:Int)
 ·rw[if_pos c3]at H
  have M:((l0.length:Int)==(l1.length:Int))=true:=beq_iff_eq.mpr c3
  have O:((l0.length:Int) != (l1.length:Int))=false:=bne_eq_false_iff_eq.mpr c3
  have P:(l0.length==l1.length)=true:=by first|simpa using c3|(simp at c3⊢;omega)
  clear c3
  replace H:=am H
  go_enter Tryz.func29,Tryz.ntmps29
  go_wp2
  go_loopg [5] k (fun kq v5 w'=>∃(a:Int),v5=.int .i64 a∧Aside0 (laws_eqGameS.l0 kq l0 l1 a=some r)∧Aside0 (kq≤k)∧Aside0 (Below w.heap.size w w'))
  case atStart=>exact⟨(0),(es),H,⟨Nat.le_refl _⟩,⟨bel⟩⟩
  case round=>
   clear H
   try clear c1;try clear c3;try clear M;try clear O;try clear P
   obtain⟨a,rfl,HA,W,HB⟩:=hrel
   cases gk with
   |zero=>exact absurd HA.out (by simp [laws_eqGameS.l0])
   |succ k1=>
    have H:=HA.out
    clear HA
    simp only[laws_eqGameS.l0]at H
    replace H:=i1 H;obtain⟨X,H⟩|⟨X,H⟩:=H
    ·replace H:=i0 H;obtain⟨Y,H⟩:=H
     replace H:=i0 H;obtain⟨Z,H⟩:=H
     replace H:=bm H;obtain⟨ac,A7,H⟩:=H
     replace H:=ib H;obtain⟨rfl,H⟩|⟨rfl,H⟩:=H
     ·replace H:=am H
      try go_wp2
      replace HB:=am (below_drew1 HB.out)
      have:(0≤(a:Int))=True:=ab
      have:(a<(l0.length:Int))=True:=ab
      obtain⟨b,G,t,u,v,x,y⟩:=at_T79 J.out a asm asm
      have l:=y
      have j:=x
      have i:=v
      have g:=u
      have d:=t
      cases G
      replace t:=hcl HB.out t
      replace u:=hcl HB.out u
      replace v:=hcl HB.out v
      replace x:=hcl HB.out x
      replace y:=hcl HB.out y
      have:(0≤(a:Int))=True:=ab
      have:(a<(l1.length:Int))=True:=ab
      obtain⟨c,I,z,A,B,D,E⟩:=at_T79 L.out a asm asm
      have s:=E
      have q:=D
      have p:=B
      have o:=A
      have m:=z
      cases I
      replace z:=hcl HB.out z
      replace A:=hcl HB.out A
      replace B:=hcl HB.out B
      replace D:=hcl HB.out D
      replace E:=hcl HB.out E
      refine start_ (n:=10) (S:=fun w'=>w'.cell? (b.add ((a).toNat*5))=some (.int .i64 ((rd_T79 l0 a).f0))∧w'.cell? ⟨(b.add ((a).toNat*5)).block,(b.add ((a).toNat*5)).off+1,none⟩=some (.int .i64 ((rd_T79 l0 a).f1))∧w'.cell? ⟨(b.add ((a).toNat*5)).block,(b.add ((a).toNat*5)).off+2,none⟩=some (.int .i64 ((rd_T79 l0 a).f2))∧w'.cell? ⟨(b.add ((a).toNat*5)).block,(b.add ((a).toNat*5)).off+3,none⟩=some (.int .i64 ((rd_T79 l0 a).f3))∧w'.cell? ⟨(b.add ((a).toNat*5)).block,(b.add ((a).toNat*5)).off+4,none⟩=some (.int .i64 ((rd_T79 l0 a).f4))∧w'.cell? (c.add ((a).toNat*5))=some (.int .i64 ((rd_T79 l1 a).f0))∧w'.cell? ⟨(c.add ((a).toNat*5)).block,(c.add ((a).toNat*5)).off+1,none⟩=some (.int .i64 ((rd_T79 l1 a).f1))∧w'.cell? ⟨(c.add ((a).toNat*5)).block,(c.add ((a).toNat*5)).off+2,none⟩=some (.int .i64 ((rd_T79 l1 a).f2))∧w'.cell? ⟨(c.add ((a).toNat*5)).block,(c.add ((a).toNat*5)).off+3,none⟩=some (.int .i64 ((rd_T79 l1 a).f3))∧w'.cell? ⟨(c.add ((a).toNat*5)).block,(c.add ((a).toNat*5)).off+4,none⟩=some (.int .i64 ((rd_T79 l1 a).f4))) (ds:=[]) (lb 10 0) (by kernel_rfl) rfl rfl ⟨((HB.out.cell (World.block_lt_of_cell? w _ d)).trans d),((HB.out.cell (World.block_lt_of_cell? w _ g)).trans g),((HB.out.cell (World.block_lt_of_cell? w _ i)).trans i),((HB.out.cell (World.block_lt_of_cell? w _ j)).trans j),((HB.out.cell (World.block_lt_of_cell? w _ l)).trans l),((HB.out.cell (World.block_lt_of_cell? w _ m)).trans m),((HB.out.cell (World.block_lt_of_cell? w _ o)).trans o),((HB.out.cell (World.block_lt_of_cell? w _ p)).trans p),((HB.out.cell (World.block_lt_of_cell? w _ q)).trans q),((HB.out.cell (World.block_lt_of_cell? w _ s)).trans s)⟩ (fun hHeld=>?_);refine with_tabW laws_eqGameS.tab6 laws_eqGameS.bits6 (fun HT_ HW_=>?_)
      generalize wr.drew=w9 at HB t u v x y z A B D E hHeld⊢
      refine pu HT_ 0 17 (lb 10 1) ?_
      refine pu HT_ 1 18 (lb 10 3) ?_
      refine pu HT_ 2 19 (lb 10 7) ?_
      refine pu HT_ 4 21 (lb 10 23) ?_
      refine pu HT_ 5 22 (lb 10 55) ?_
      refine pu HT_ 6 23 (lb 10 119) ?_
      refine tk HT_ HW_ hHeld 3 20 (lb 10 127) ?_
      refine tk HT_ HW_ hHeld 7 24 (lb 10 255) ?_
      refine on HT_ 8 25 (lb 10 511) fun K hK=>?_
      refine goes_ Tryz.func49 (by kernel_rfl) rfl #[.agg #[.int .i64 ((rd_T79 l0 a).f0),.int .i64 ((rd_T79 l0 a).f1),.int .i64 ((rd_T79 l0 a).f2),.int .i64 ((rd_T79 l0 a).f3),.int .i64 ((rd_T79 l0 a).f4)],.agg #[.int .i64 ((rd_T79 l1 a).f0),.int .i64 ((rd_T79 l1 a).f1),.int .i64 ((rd_T79 l1 a).f2),.int .i64 ((rd_T79 l1 a).f3),.int .i64 ((rd_T79 l1 a).f4)]] (by rfl) rfl rfl ga ?_
      with_reducible refine(laws_eqGame.calls ((rd_T79 l0 a).f0) ((rd_T79 l0 a).f1) ((rd_T79 l0 a).f2) ((rd_T79 l0 a).f3) ((rd_T79 l0 a).f4) ((rd_T79 l1 a).f0) ((rd_T79 l1 a).f1) ((rd_T79 l1 a).f2) ((rd_T79 l1 a).f3) ((rd_T79 l1 a).f4) true _ A7.out).mono ?_
      rintro e ad ⟨rfl,hb⟩
      refine⟨_,rfl,?_⟩
      replace HB:=b2 hb
      (try clear hb)
      refine hK.out _ _ ⟨((HB.out.cell (World.block_lt_of_cell? w _ d)).trans d),((HB.out.cell (World.block_lt_of_cell? w _ g)).trans g),((HB.out.cell (World.block_lt_of_cell? w _ i)).trans i),((HB.out.cell (World.block_lt_of_cell? w _ j)).trans j),((HB.out.cell (World.block_lt_of_cell? w _ l)).trans l),((HB.out.cell (World.block_lt_of_cell? w _ m)).trans m),((HB.out.cell (World.block_lt_of_cell? w _ o)).trans o),((HB.out.cell (World.block_lt_of_cell? w _ p)).trans p),((HB.out.cell (World.block_lt_of_cell? w _ q)).trans q),((HB.out.cell (World.block_lt_of_cell? w _ s)).trans s)⟩ (fun hHeld=>?_)
      clear hK K
      refine nm 25 ?_
      refine pu HT_ 9 26 (lb 10 1023) ?_
      refine done_ (done_of HT_.out (by kernel_rfl)) ?_
      try go_wp2
      go_roundg k1
      case measure=>have:=W.out;omega
      case rel=>exact⟨(wrap64 (a+1)),(es),H,⟨by have:=W.out;omega⟩,⟨bel⟩⟩
     ·obtain rfl:=qj1 H
      try go_wp2
      replace HB:=am (below_drew1 HB.out)
      have:(0≤(a:Int))=True:=ab
      have:(a<(l0.length:Int))=True:=ab
      obtain⟨b,G,t,u,v,x,y⟩:=at_T79 J.out a asm asm
      have l:=y
      have j:=x
      have i:=v
      have g:=u
      have d:=t
      cases G
      replace t:=hcl HB.out t
      replace u:=hcl HB.out u
      replace v:=hcl HB.out v
      replace x:=hcl HB.out x
      replace y:=hcl HB.out y
      have:(0≤(a:Int))=True:=ab
      have:(a<(l1.length:Int))=True:=ab
      obtain⟨c,I,z,A,B,D,E⟩:=at_T79 L.out a asm asm
      have s:=E
      have q:=D
      have p:=B
      have o:=A
      have m:=z
      cases I
      replace z:=hcl HB.out z
      replace A:=hcl HB.out A
      replace B:=hcl HB.out B
      replace D:=hcl HB.out D
      replace E:=hcl HB.out E
      refine start_ (n:=10) (S:=fun w'=>w'.cell? (b.add ((a).toNat*5))=some (.int .i64 ((rd_T79 l0 a).f0))∧w'.cell? ⟨(b.add ((a).toNat*5)).block,(b.add ((a).toNat*5)).off+1,none⟩=some (.int .i64 ((rd_T79 l0 a).f1))∧w'.cell? ⟨(b.add ((a).toNat*5)).block,(b.add ((a).toNat*5)).off+2,none⟩=some (.int .i64 ((rd_T79 l0 a).f2))∧w'.cell? ⟨(b.add ((a).toNat*5)).block,(b.add ((a).toNat*5)).off+3,none⟩=some (.int .i64 ((rd_T79 l0 a).f3))∧w'.cell? ⟨(b.add ((a).toNat*5)).block,(b.add ((a).toNat*5)).off+4,none⟩=some (.int .i64 ((rd_T79 l0 a).f4))∧w'.cell? (c.add ((a).toNat*5))=some (.int .i64 ((rd_T79 l1 a).f0))∧w'.cell? ⟨(c.add ((a).toNat*5)).block,(c.add ((a).toNat*5)).off+1,none⟩=some (.int .i64 ((rd_T79 l1 a).f1))∧w'.cell? ⟨(c.add ((a).toNat*5)).block,(c.add ((a).toNat*5)).off+2,none⟩=some (.int .i64 ((rd_T79 l1 a).f2))∧w'.cell? ⟨(c.add ((a).toNat*5)).block,(c.add ((a).toNat*5)).off+3,none⟩=some (.int .i64 ((rd_T79 l1 a).f3))∧w'.cell? ⟨(c.add ((a).toNat*5)).block,(c.add ((a).toNat*5)).off+4,none⟩=some (.int .i64 ((rd_T79 l1 a).f4))) (ds:=[]) (lb 10 0) (by kernel_rfl) rfl rfl ⟨((HB.out.cell (World.block_lt_of_cell? w _ d)).trans d),((HB.out.cell (World.block_lt_of_cell? w _ g)).trans g),((HB.out.cell (World.block_lt_of_cell? w _ i)).trans i),((HB.out.cell (World.block_lt_of_cell? w _ j)).trans j),((HB.out.cell (World.block_lt_of_cell? w _ l)).trans l),((HB.out.cell (World.block_lt_of_cell? w _ m)).trans m),((HB.out.cell (World.block_lt_of_cell? w _ o)).trans o),((HB.out.cell (World.block_lt_of_cell? w _ p)).trans p),((HB.out.cell (World.block_lt_of_cell? w _ q)).trans q),((HB.out.cell (World.block_lt_of_cell? w _ s)).trans s)⟩ (fun hHeld=>?_);refine with_tabW laws_eqGameS.tab6 laws_eqGameS.bits6 (fun HT_ HW_=>?_)
      generalize wr.drew=ae at HB t u v x y z A B D E hHeld⊢
      refine pu HT_ 0 17 (lb 10 1) ?_
      refine pu HT_ 1 18 (lb 10 3) ?_
      refine pu HT_ 2 19 (lb 10 7) ?_
      refine pu HT_ 4 21 (lb 10 23) ?_
      refine pu HT_ 5 22 (lb 10 55) ?_
      refine pu HT_ 6 23 (lb 10 119) ?_
      refine tk HT_ HW_ hHeld 3 20 (lb 10 127) ?_
      refine tk HT_ HW_ hHeld 7 24 (lb 10 255) ?_
      refine on HT_ 8 25 (lb 10 511) fun K hK=>?_
      refine goes_ Tryz.func49 (by kernel_rfl) rfl #[.agg #[.int .i64 ((rd_T79 l0 a).f0),.int .i64 ((rd_T79 l0 a).f1),.int .i64 ((rd_T79 l0 a).f2),.int .i64 ((rd_T79 l0 a).f3),.int .i64 ((rd_T79 l0 a).f4)],.agg #[.int .i64 ((rd_T79 l1 a).f0),.int .i64 ((rd_T79 l1 a).f1),.int .i64 ((rd_T79 l1 a).f2),.int .i64 ((rd_T79 l1 a).f3),.int .i64 ((rd_T79 l1 a).f4)]] (by rfl) rfl rfl ga ?_
      with_reducible refine(laws_eqGame.calls ((rd_T79 l0 a).f0) ((rd_T79 l0 a).f1) ((rd_T79 l0 a).f2) ((rd_T79 l0 a).f3) ((rd_T79 l0 a).f4) ((rd_T79 l1 a).f0) ((rd_T79 l1 a).f1) ((rd_T79 l1 a).f2) ((rd_T79 l1 a).f3) ((rd_T79 l1 a).f4) false _ A7.out).mono ?_
      rintro e af ⟨rfl,hb⟩
      refine⟨_,rfl,?_⟩
      replace HB:=b2 hb
      (try clear hb)
      refine hK.out _ _ ⟨((HB.out.cell (World.block_lt_of_cell? w _ d)).trans d),((HB.out.cell (World.block_lt_of_cell? w _ g)).trans g),((HB.out.cell (World.block_lt_of_cell? w _ i)).trans i),((HB.out.cell (World.block_lt_of_cell? w _ j)).trans j),((HB.out.cell (World.block_lt_of_cell? w _ l)).trans l),((HB.out.cell (World.block_lt_of_cell? w _ m)).trans m),((HB.out.cell (World.block_lt_of_cell? w _ o)).trans o),((HB.out.cell (World.block_lt_of_cell? w _ p)).trans p),((HB.out.cell (World.block_lt_of_cell? w _ q)).trans q),((HB.out.cell (World.block_lt_of_cell? w _ s)).trans s)⟩ (fun hHeld=>?_)
      clear hK K
      refine nm 25 ?_
      refine pu HT_ 9 26 (lb 10 1023) ?_
      refine done_ (done_of HT_.out (by kernel_rfl)) ?_
      try go_wp2
      go_ret
      exact⟨er,bel⟩
    ·obtain rfl:=qj1 H
     go_wp2
     go_ret
     exact⟨er,bel⟩
 ·rw[if_neg c3]at H
  have M:((l0.length:Int)==(l1.length:Int))=false:=beq_eq_false_iff_ne.mpr c3
  have O:((l0.length:Int) != (l1.length:Int))=true:=bne_iff_ne.mpr c3
  have P:(l0.length==l1.length)=false:=by first|simpa using c3|(simp at c3⊢;omega)
  obtain rfl:=qj1 H
  go_enter Tryz.func29,Tryz.ntmps29
  go_wp2
  go_ret
  exact⟨er,bel⟩
end Go.Proofs.YtgalpgakdcfilaaGreat.L
