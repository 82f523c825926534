-- Written by a program of this session (wip/xp.py).
import Derived.Test.YtgalpgakdcfilaaGreatL0
import Derived.Test.YtgalpgakdcfilaaGreatL27
import Derived.Test.YtgalpgakdcfilaaGreatL30
namespace Go.Proofs.YtgalpgakdcfilaaGreat.L
open Go.RowKit Go.Proofs.YtgalpgakdcfilaaGreatW.PrintWords Go.Proofs.YtgalpgakdcfilaaGreatW.PrintLast Go.Proofs.YtgalpgakdcfilaaGreatW.PrintMore
attribute [local go_sem] max2_int min2_int max_two min_two max_three min_three max_four min_four
set_option linter.unusedVariables false
set_option linter.unusedSimpArgs false
set_option maxHeartbeats 8000000
set_option maxRecDepth 100000
def spec_l17Back.f(b:Int)(a:List (S71))(l1:List Int)(a2:Int):Option (Int×Int):=if a2>0 then(if 0≤(wrap64 (a2-1))then(if(wrap64 (a2-1))<(a.length:Int)then(if(wrap64 (a2-1))<(l1.length:Int)then(some ((rd_T71 a (wrap64 (a2-1))).f0,wrap64 (((rd_T71 a (wrap64 (a2-1))).f2)-(rd l1 (wrap64 (a2-1))))))else(none))else(none))else(none))else(if 0≤(wrap64 ((wrap64 (-a2))-1))then(if(wrap64 ((wrap64 (-a2))-1))<(a.length:Int)then(if(wrap64 ((wrap64 (-a2))-1))<(l1.length:Int)then(some ((rd_T71 a (wrap64 ((wrap64 (-a2))-1))).f1,rd l1 (wrap64 ((wrap64 (-a2))-1))))else(none))else(none))else(none))
theorem spec_l17Back.calls(B:Int)(A:Option Addr)(D:Nat)(b:List (S71))(A1:Option Addr)(c1:Nat)(l1:List Int)(a2:Int)(r1:Int)(r2:Int)(w:World)(m:Kd.C k71 w A b.length b)(G:b.length≤D)(I:Kd.C (Kd.int .i64) w A1 l1.length l1)(P:l1.length≤c1)(h:spec_l17Back.f B b l1 a2=some (r1,r2)):Calls Tryz.prog 59 #[.agg #[.int .i64 B,.slice A b.length D],.slice A1 l1.length c1,.int .i64 a2] w fun e w'=>e=.returned (.tuple #[.int .i64 r1,.int .i64 r2])∧Below w.heap.size w w':=by
 have aE:=Tryz.underlying65
 have aF:=Tryz.underlying71
 replace m:=am m
 replace G:=am G
 replace I:=am I
 replace P:=am P
 have HB:=qb w
 have H:=h
 unfold spec_l17Back.f at H
 clear h
 replace H:=i1 H;obtain⟨T,H⟩|⟨T,H⟩:=H
 ·obtain⟨l,E⟩:∃j_:Int,(wrap64 (a2-1))=j_:=⟨_,rfl⟩
  (first|rw[E]at H|simp only[E]at H)
  have az:(IntKind.i64.wrap (a2-1))=l:=(i64_w _).trans E
  replace H:=i0 H;obtain⟨aB,H⟩:=H
  replace H:=i0 H;obtain⟨aC,H⟩:=H
  replace H:=i0 H;obtain⟨aD,H⟩:=H
  obtain⟨rfl,rfl⟩:=qj2 H
  go_enter Tryz.func59,Tryz.ntmps59
  go_wp2_with (first|((with_reducible refine gd 3 ?_);refine bx w 3 #[.int .i64 B,.slice A b.length D] 65 ?_;clear HB;intro O w9 k L HB;obtain⟨Z,aa,ah,ai⟩:=cf2 k.out;have:(0≤((l):Int))=True:=ab;have:((l)<(b.length:Int))=True:=ab;obtain⟨ar,U,o,q,r⟩:=at_T71 m.out (l) asm asm;cases U;replace o:=hcl HB.out o;replace q:=hcl HB.out q;replace r:=hcl HB.out r)|((with_reducible refine gd 8 ?_);refine by_ w 8 #[.int .i64 0,.int .i64 0,.int .i64 0] 71 ?_;clear HB;intro c hg aA K x hb HB;obtain⟨M,y⟩:=qn hg k;replace k:=b1 k hb;clear hb hg;obtain⟨_,_⟩:=qo y;obtain⟨ac,ad,ae,aj,ak,al⟩:=cf3 K.out;have:(0≤((l):Int))=True:=ab;have:((l)<(l1.length:Int))=True:=ab;obtain⟨z,W,a⟩:=Kd.at_int I.out (l) asm asm;cases W;have d:z.block≠c:=Nat.ne_of_lt (Nat.lt_of_lt_of_le (by have:=World.block_lt_of_cell? _ _ a;first|rwa [add_block]at this|exact this) x.out);have g:z.block≠c:=Nat.ne_of_lt (Nat.lt_of_lt_of_le (by have:=World.block_lt_of_cell? _ _ a;first|rwa [add_block]at this|exact this) x.out);have i:z.block≠c:=Nat.ne_of_lt (Nat.lt_of_lt_of_le (by have:=World.block_lt_of_cell? _ _ a;first|rwa [add_block]at this|exact this) x.out);replace a:=hcl HB.out a;replace a:=(cell_far (p:=⟨c,0,none⟩) (by first|(rw[add_block];exact d)|(show(Addr.add _ _).block≠_;rw[add_block];exact d)|exact d) (.int .i64 ((rd_T71 b (l)).f0))).trans a;replace a:=(cell_far (p:=⟨c,1,none⟩) (by first|(rw[add_block];exact g)|(show(Addr.add _ _).block≠_;rw[add_block];exact g)|exact g) (.int .i64 ((rd_T71 b (l)).f1))).trans a;replace a:=(cell_far (p:=⟨c,2,none⟩) (by first|(rw[add_block];exact i)|(show(Addr.add _ _).block≠_;rw[add_block];exact i)|exact i) (.int .i64 ((rd_T71 b (l)).f2))).trans a;(try have ap:=fun(n_:Nat)=>(show(((((aA.drewN n_).setCell ⟨c,0,none⟩ (.int .i64 ((rd_T71 b (l)).f0))).setCell ⟨c,1,none⟩ (.int .i64 ((rd_T71 b (l)).f1))).setCell ⟨c,2,none⟩ (.int .i64 ((rd_T71 b (l)).f2)))).cell? _=some _ from a));clear d;clear g;clear i)|go_quiet (fail))
  go_ret2
  exact⟨by first|rfl|(simp [errW_none,errW_some]<;>rfl)|(simp only[←E];first|rfl|(simp [errW_none,errW_some]<;>rfl))|(simp [*,errW_none,errW_some]<;>rfl),bel⟩
 ·obtain⟨j,n⟩:∃j_:Int,(wrap64 ((wrap64 (-a2))-1))=j_:=⟨_,rfl⟩
  (first|rw[n]at H|simp only[n]at H)
  have aq:(IntKind.i64.wrap ((wrap64 (-a2))-1))=j:=(i64_w _).trans n
  by_cases J:0≤(j)
  ·rw[if_pos J]at H
   have aw:decide (0≤(j))=true:=decide_eq_true J
   clear J
   replace H:=i0 H;obtain⟨ax,H⟩:=H
   replace H:=i0 H;obtain⟨ay,H⟩:=H
   obtain⟨rfl,rfl⟩:=qj2 H
   go_enter Tryz.func59,Tryz.ntmps59
   go_wp2_with (first|((with_reducible refine gd 3 ?_);refine bx w 3 #[.int .i64 B,.slice A b.length D] 65 ?_;clear HB;intro O aG k L HB;obtain⟨af,ag,an,ao⟩:=cf2 k.out;have:(0≤((j):Int))=True:=ab;have:((j)<(b.length:Int))=True:=ab;obtain⟨au,X,s,t,u⟩:=at_T71 m.out (j) asm asm;cases X;replace s:=hcl HB.out s;replace t:=hcl HB.out t;replace u:=hcl HB.out u;have:(0≤((j):Int))=True:=ab;have:((j)<(l1.length:Int))=True:=ab;obtain⟨av,Y,v⟩:=Kd.at_int I.out (j) asm asm;cases Y;replace v:=hcl HB.out v)|go_quiet (fail))
   go_ret2
   exact⟨by first|rfl|(simp [errW_none,errW_some]<;>rfl)|(simp only[←n];first|rfl|(simp [errW_none,errW_some]<;>rfl))|(simp [*,errW_none,errW_some]<;>rfl),bel⟩
  ·rw[if_neg J]at H
   exact absurd H (by simp)
mutual
def spec_GreatestFlow.l0:Nat→Int→Int→List Int→Int→List (S71)→Option (List Int×Bool)
  |0,_,_,_,_,_=>none
  |k+1,x1,x2,x8,a,b=>(spec_l17Reach.f k a b x1 x8).bind fun c=>(if 0≤x2 then(if x2<(c.2.length:Int)then(if rdOf false c.2 x2=true then(spec_GreatestFlow.l1 k x1 x2 x8 c.1 1000 x2 a b)else(some (x8,true)))else(none))else(none))
def spec_GreatestFlow.l1:Nat→Int→Int→List Int→List Int→Int→Int→Int→List (S71)→Option (List Int×Bool)
  |0,_,_,_,_,_,_,_,_=>none
  |k+1,x1,x2,x8,x9,e,d,a,b=>if d=x1 then(spec_GreatestFlow.l2 k x1 x2 x8 x9 e x2 a b)else(if 0≤d then(if d<(x9.length:Int)then((spec_l17Back.f a b x8 (rd x9 d)).bind fun c=>(spec_GreatestFlow.l1 k x1 x2 x8 x9 (mn e c.2) c.1 a b))else(none))else(none))
def spec_GreatestFlow.l2:Nat→Int→Int→List Int→List Int→Int→Int→Int→List (S71)→Option (List Int×Bool)
  |0,_,_,_,_,_,_,_,_=>none
  |k+1,x1,x2,x8,x9,e,c,a,b=>if c=x1 then(spec_GreatestFlow.l0 k x1 x2 x8 a b)else(if 0≤c then(if c<(x9.length:Int)then((spec_l17Back.f a b x8 (rd x9 c)).bind fun d=>(if(rd x9 c)>0 then(if 0≤(wrap64 ((rd x9 c)-1))then(if(wrap64 ((rd x9 c)-1))<(x8.length:Int)then(spec_GreatestFlow.l2 k x1 x2 (x8.set ((wrap64 ((rd x9 c)-1)):Int).toNat (wrap64 ((rd x8 (wrap64 ((rd x9 c)-1)))+e))) x9 e d.1 a b)else(none))else(none))else(if 0≤(wrap64 ((wrap64 (-(rd x9 c)))-1))then(if(wrap64 ((wrap64 (-(rd x9 c)))-1))<(x8.length:Int)then(spec_GreatestFlow.l2 k x1 x2 (x8.set ((wrap64 ((wrap64 (-(rd x9 c)))-1)):Int).toNat (wrap64 ((rd x8 (wrap64 ((wrap64 (-(rd x9 c)))-1)))-e))) x9 e d.1 a b)else(none))else(none))))else(none))else(none))
end
def spec_GreatestFlow.f(k:Nat)(b:Int)(a:List (S71))(a1:Int)(a2:Int):Option (List Int×Bool):=(spec_l17Ends.f k b a a1 a2).bind fun c=>(if c=true then(if 0≤(a.length:Int)then(if((a.length:Int):Int).toNat≤35184372088832 then(spec_GreatestFlow.l0 k a1 a2 (List.replicate ((a.length:Int):Int).toNat 0) b a)else(none))else(none))else(some (([]:List Int),false)))
def spec_GreatestFlow.T10:Bool×List (List Nat×List Nat):=(true,[([],[]),([],[]),([],[]),([],[]),([2,3],[2,3]),([4],[4]),([0,1,5],[0,1,5]),([6],[6]),([7],[7]),([7],[7]),([8,6,0,1,2,3,4,5,6,7,8],[8]),([9,10,0,1,2,3,4,5,6,7,8,9,10],[9])])
def spec_GreatestFlow.B10:List Nat:=[0,0,0,0,12,28,63,127,255,255,511,2047]
theorem spec_GreatestFlow.tab10:rtab .any (opsOf Tryz.f35 10)=spec_GreatestFlow.T10:=by kernel_rfl
theorem spec_GreatestFlow.bits10:waitsOk spec_GreatestFlow.T10.2 spec_GreatestFlow.B10=true:=by kernel_rfl
def spec_GreatestFlow.T15:Bool×List (List Nat×List Nat):=(true,[([],[]),([],[]),([],[]),([],[]),([2,3],[2,3]),([4],[4]),([0,1,5],[0,1,5]),([6],[6]),([7],[7]),([7],[7]),([8,6,0,1,2,3,4,5,6,7,8],[8]),([9,10,0,1,2,3,4,5,6,7,8,9,10],[9])])
def spec_GreatestFlow.B15:List Nat:=[0,0,0,0,12,28,63,127,255,255,511,2047]
theorem spec_GreatestFlow.tab15:rtab .any (opsOf Tryz.f35 15)=spec_GreatestFlow.T15:=by kernel_rfl
theorem spec_GreatestFlow.bits15:waitsOk spec_GreatestFlow.T15.2 spec_GreatestFlow.B15=true:=by kernel_rfl
def spec_GreatestFlow.T17:Bool×List (List Nat×List Nat):=(true,[([],[]),([],[]),([],[]),([1,2],[1,2]),([3],[3]),([4],[4]),([],[]),([],[]),([],[]),([7,8],[7,8]),([9],[9]),([10],[10]),([6,11],[6,11]),([12],[12]),([],[]),([13,14],[13,14]),([0,5,0,1,2,3,4,5,6,7,8,9,10,11,12,13,14,15],[0,5]),([16,15,0,1,2,3,4,5,6,7,8,9,10,11,12,13,14,15],[15,16])])
def spec_GreatestFlow.B17:List Nat:=[0,0,0,6,14,30,0,0,0,384,896,1920,4032,8128,0,32704,65535,131071]
theorem spec_GreatestFlow.tab17:rtab .any (opsOf Tryz.f35 17)=spec_GreatestFlow.T17:=by kernel_rfl
theorem spec_GreatestFlow.bits17:waitsOk spec_GreatestFlow.T17.2 spec_GreatestFlow.B17=true:=by kernel_rfl
def spec_GreatestFlow.T18:Bool×List (List Nat×List Nat):=(true,[([],[]),([],[]),([],[]),([1,2],[1,2]),([3],[3]),([4],[4]),([5],[5]),([],[]),([],[]),([],[]),([8,9],[8,9]),([10],[10]),([11],[11]),([12],[12]),([7,13],[7,13]),([14],[14]),([],[]),([15,16],[15,16]),([0,6,0,1,2,3,4,5,6,7,8,9,10,11,12,13,14,15,16,17],[0,6]),([18,17,0,1,2,3,4,5,6,7,8,9,10,11,12,13,14,15,16,17],[17,18])])
def spec_GreatestFlow.B18:List Nat:=[0,0,0,6,14,30,62,0,0,0,768,1792,3840,7936,16256,32640,0,130944,262143,524287]
theorem spec_GreatestFlow.tab18:rtab .any (opsOf Tryz.f35 18)=spec_GreatestFlow.T18:=by kernel_rfl
theorem spec_GreatestFlow.bits18:waitsOk spec_GreatestFlow.T18.2 spec_GreatestFlow.B18=true:=by kernel_rfl
theorem spec_GreatestFlow.calls(k:Nat)(l:Int)(y:Option Addr)(z:Nat)(j:List (S71))(a1:Int)(a2:Int)(r1:List Int)(r2:Bool)(w:World)(B:Kd.C k71 w y j.length j)(A:j.length≤z)(h:spec_GreatestFlow.f k l j a1 a2=some (r1,r2)):Calls Tryz.prog 35 #[.agg #[.int .i64 l,.slice y j.length z],.int .i64 a1,.int .i64 a2] w fun e w'=>∃b4:Value,e=.returned (.tuple #[b4,.bool r2])∧Kd.R (Kd.int .i64) 3 w' w.heap.size (fun _=>True) b4 r1∧Below w.heap.size w w':=by
 have cP:=Tryz.underlying65
 replace B:=am B
 replace A:=am A
 have HB:=qb w
 have H:=h
 unfold spec_GreatestFlow.f at H
 clear h
 replace H:=bm H;obtain⟨cQ,A4,H⟩:=H
 replace H:=ib H;obtain⟨rfl,H⟩|⟨rfl,H⟩:=H
 ·replace H:=i0 H;obtain⟨az,H⟩:=H
  have aN:=eq_true (of_decide_eq_true az)
  replace H:=i0 H;obtain⟨aA,H⟩:=H
  have aO:=eq_true (of_decide_eq_true aA)
  generalize hy464:(List.replicate ((j.length:Int):Int).toNat 0:List Int)=b7 at H
  have aI:=am hy464.symm
  clear hy464
  replace H:=am H
  go_enter Tryz.func35,Tryz.ntmps35
  go_wp2_with (first|((with_reducible refine gd 3 ?_);refine bx w 3 #[.int .i64 l,.slice y j.length z] 65 ?_;clear HB;intro v w8 a aw HB;obtain⟨X,Y,Z,aa⟩:=cf2 a.out)|((with_reducible refine gc 57 ?_);refine gl 21 Tryz.func57 (spec_l17Ends.calls k l _ _ j a1 a2 true _ (cb B HB) A.out A4.out) ?_;rintro e cS ⟨rfl,hb⟩;refine⟨_,rfl,?_⟩;replace a:=b1 a hb;replace HB:=b2 hb;(try clear hb);obtain⟨L,M,O,P⟩:=cf2 a.out)|((with_reducible refine gate_dst (N:=26) rfl ?_);refine Kd.R_make (Kd.int .i64) _ 3 rfl (N:=26) rfl 23 _ _ rfl (j.length:Int) rfl rfl Tryz.underlying23 (.int .i64 0) 8 info3 rfl (by decide) (by omega) 0 (ok:=fun _=>True) (okp:=fun _=>True) rfl (fun _ hk=>hk) trivial (asm) (Nat.le_trans (Nat.mul_le_mul_right _ (asm:(j.length:Int).toNat≤35184372088832)) (by omega)) (Below.refl _ _) (Nat.le_refl _) ?_;intro b5 cT al hb hg_ hnew_;clear hg_ hnew_;(first|rw[←aI.out]at al|(simp only[Int.reduceToNat]at al;rw[←aI.out]at al));have bl:=am (Kd.R_lower al (below_size bel));replace a:=b1 a hb;replace HB:=b2 hb;clear hb al))
  go_loopg [] k (fun kq w'=>∃(u:List Int),Aside0 (spec_GreatestFlow.l0 kq a1 a2 u l j=some (r1,r2))∧Aside0 (kq≤k)∧Aside0 (Kd.R (Kd.int .i64) 3 w' w.heap.size (fun _=>True) b5 u)∧Aside0 (w'.heap[v]? =some (.cells #[.int .i64 l,(.slice y j.length z)] 65 (0,0)))∧Aside0 (Below w.heap.size w w'))
  case atStart=>exact⟨(b7),H,⟨Nat.le_refl _⟩,⟨rk bl.out⟩,⟨bk a.out⟩,⟨bel⟩⟩
  case round=>
   clear H
   try clear aN;try clear az;try clear aO;try clear aA;try clear L;try clear M;try clear X;try clear Y;try clear O;try clear P;try clear Z;try clear aa
   obtain⟨u,HA,ae,c,a,HB⟩:=hrel
   cases gk with
   |zero=>exact absurd HA.out (by simp [spec_GreatestFlow.l0])
   |succ k1=>
    have H:=HA.out
    clear HA
    simp only[spec_GreatestFlow.l0]at H
    replace H:=bm H;obtain⟨⟨g,au⟩,bJ,H⟩:=H;dsimp only at H
    replace H:=i0 H;obtain⟨aJ,H⟩:=H
    replace H:=i0 H;obtain⟨aK,H⟩:=H
    generalize hbq17:(rdOf false au a2)=cE at H
    have aH:=am hbq17.symm
    clear hbq17
    replace H:=ib H;obtain⟨rfl,H⟩|⟨rfl,H⟩:=H
    ·replace H:=am H
     obtain⟨ah,ai,aj,ak⟩:=cf2 a.out
     obtain⟨G,J,bW⟩:=Kd.R_slice c.out
     subst bW
     go_wp2_with (first|((with_reducible refine gc 58 ?_);refine gl 31 Tryz.func58 (spec_l17Reach.calls k1 l _ _ j a1 _ _ u g au _ (cb B HB) A.out (ck (Kd.R_reads' c.out).2.2) (rn c) bJ.out) ?_;rintro e cU ⟨av,b6,rfl,ay,aW,hb⟩;refine⟨_,rfl,?_⟩;have aE:=am (Kd.R_lower (Kd.R_new' ay (Kd.R_lt (rk c.out))) (below_size bel));have I:=am (Kd.R_lower aW (below_size bel));replace c:=am (Kd.R_elder' (rk c.out) (Kd.R_base ay) hb);replace a:=b1 a hb;replace HB:=b2 hb;(try clear hb);(try clear ay);(try clear aW);obtain⟨cy,cH,bX⟩:=Kd.R_slice I.out;subst bX;have:(0≤(a2:Int))=True:=ab;have:(a2<(au.length:Int))=True:=ab;obtain⟨bp,aP,D⟩:=Kd.at_bool (Kd.R_reads' I.out).2.2 a2 asm asm;(try rw[←aH.out]at D);cases aP))
     go_loopg [11,12] k1 (fun kq ct cu w'=>∃(r:Int) (x:Int),ct=.int .i64 r∧cu=.int .i64 x∧Aside0 (spec_GreatestFlow.l1 kq a1 a2 u g r x l j=some (r1,r2))∧Aside0 (kq≤k1)∧Aside0 (Kd.R (Kd.int .i64) 3 w' w.heap.size (fun k_=>some k_≠(av:Value).ownBlock) (.slice G u.length J) u)∧Aside0 (Kd.R (Kd.int .i64) 3 w' w.heap.size (fun k_=>some k_≠((.slice G u.length J):Value).ownBlock) av g)∧Aside0 (w'.heap[v]? =some (.cells #[.int .i64 l,(.slice y j.length z)] 65 (0,0)))∧Aside0 (Below w.heap.size w w'))
     case atStart=>exact⟨(1000),(a2),(es),(es),H,⟨Nat.le_refl _⟩,⟨by(with_reducible repeat (first|apply Kd.R_alloc|apply Kd.R_drewN|apply Kd.R_drew));exact Kd.R_mono c.out (fun _ hk=>hk.2)⟩,⟨by(with_reducible repeat (first|apply Kd.R_alloc|apply Kd.R_drewN|apply Kd.R_drew));exact Kd.R_mono aE.out (fun _ hk=>hk.2)⟩,⟨bk a.out⟩,⟨bel⟩⟩
     case round=>
      clear H
      try clear aN;try clear az;try clear aO;try clear aA;try clear aJ;try clear aK;try clear L;try clear M;try clear ah;try clear ai;try clear X;try clear Y;try clear O;try clear P;try clear aj;try clear ak;try clear Z;try clear aa;try clear D
      obtain⟨r,x,rfl,rfl,HA,af,c,d,a,HB⟩:=hrel
      cases gk with
      |zero=>exact absurd HA.out (by simp [spec_GreatestFlow.l1])
      |succ k2=>
       have H:=HA.out
       clear HA
       simp only[spec_GreatestFlow.l1]at H
       replace H:=ie H;obtain⟨aL,aM,H⟩|⟨⟨cg,aL,aM⟩,H⟩:=H
       ·replace H:=am H
        go_wp2
        go_loopg [15] k2 (fun kq cv w'=>∃(m:List Int) (b:Int),cv=.int .i64 b∧Aside0 (spec_GreatestFlow.l2 kq a1 a2 m g r b l j=some (r1,r2))∧Aside0 (kq≤k2)∧Aside0 (Kd.R (Kd.int .i64) 3 w' w.heap.size (fun k_=>some k_≠(av:Value).ownBlock) (.slice G u.length J) m)∧Aside0 (Kd.R (Kd.int .i64) 3 w' w.heap.size (fun k_=>some k_≠((.slice G u.length J):Value).ownBlock) av g)∧Aside0 (w'.heap[v]? =some (.cells #[.int .i64 l,(.slice y j.length z)] 65 (0,0)))∧Aside0 (Below w.heap.size w w'))
        case atStart=>exact⟨(u),(a2),(es),H,⟨Nat.le_refl _⟩,⟨rk c.out⟩,⟨rk d.out⟩,⟨bk a.out⟩,⟨bel⟩⟩
        case round=>
         clear H
         try clear aN;try clear az;try clear aO;try clear aA;try clear aJ;try clear aK;try clear cg;try clear aL;try clear aM;try clear L;try clear M;try clear ah;try clear ai;try clear X;try clear Y;try clear O;try clear P;try clear aj;try clear ak;try clear Z;try clear aa;try clear D
         obtain⟨m,b,rfl,HA,aD,c,d,a,HB⟩:=hrel
         have o:=(Kd.R_reads' c.out).1
         rw[o]at c
         (try simp only[o])
         (try simp only[o]at a)
         (try simp only[o]at d)
         cases gk with
         |zero=>exact absurd HA.out (by simp [spec_GreatestFlow.l2])
         |succ k3=>
          have H:=HA.out
          clear HA
          simp only[spec_GreatestFlow.l2]at H
          replace H:=ie H;obtain⟨bC,bD,H⟩|⟨⟨cR,bC,bD⟩,H⟩:=H
          ·replace H:=am H
           go_wp2
           (try simp only[←o])
           go_roundg k3
           case measure=>have:=ae.out;have:=af.out;have:=aD.out;omega
           case rel=>exact⟨(m),H,⟨by have:=ae.out;have:=af.out;have:=aD.out;omega⟩,⟨by(try simp only[o]);(with_reducible repeat (first|apply Kd.R_alloc|apply Kd.R_drewN|apply Kd.R_drew));exact Kd.R_mono c.out (fun _ hk=>trivial)⟩,⟨by(try simp only[o]);(with_reducible repeat (first|refine blk_drewN ?_ _|refine blk_drew ?_|refine blk_alloc ?_ _));exact a.out⟩,⟨bel⟩⟩
          ·replace H:=i0 H;obtain⟨ch,H⟩:=H
           replace H:=i0 H;obtain⟨ci,H⟩:=H
           replace H:=bm H;obtain⟨⟨aC,bj⟩,aY,H⟩:=H;dsimp only at H
           replace H:=i1 H;obtain⟨bE,H⟩|⟨bE,H⟩:=H
           ·obtain⟨s,ac⟩:∃j_:Int,(wrap64 ((rd g b)-1))=j_:=⟨_,rfl⟩
            (first|rw[ac]at H|simp only[ac]at H)
            (try rw[ac]at aY)
            have ca:(IntKind.i64.wrap ((rd g b)-1))=s:=(i64_w _).trans ac
            replace H:=i0 H;obtain⟨cj,H⟩:=H
            replace H:=i0 H;obtain⟨cn,H⟩:=H
            generalize hy484:(m.set ((s):Int).toNat (wrap64 ((rd m (s))+r)):List Int)=b8 at H
            have bn:=am hy484.symm
            clear hy484
            replace H:=am H
            try go_wp2
            replace c:=am (Kd.R_drew c.out)
            replace d:=am (Kd.R_drew d.out)
            replace a:=am (blk_drew a.out)
            replace HB:=am (below_drew1 HB.out)
            obtain⟨cz,cJ,ba⟩:=Kd.R_slice d.out
            (first|subst ba|(injection ba with f1_ f2_ f3_;have aS:=f1_.symm;have aT:=f3_.symm;clear f1_ f2_ f3_;subst aS;subst aT))
            have:(0≤(b:Int))=True:=ab
            have:(b<(g.length:Int))=True:=ab
            obtain⟨q,aQ,E⟩:=Kd.at_int (Kd.R_reads' d.out).2.2 b asm asm
            cases aQ
            refine start_ (n:=12) (S:=fun w'=>w'.cell? ⟨v,0,none⟩=some (.int .i64 l)∧w'.cell? ⟨v,1,none⟩=some (.slice y j.length z)∧w'.cell? (q.add (b).toNat)=some (.int .i64 (rd g b))) (ds:=[]) (lb 12 0) (by kernel_rfl) rfl rfl ⟨qc a 0,qc a 1,E⟩ (fun hHeld=>?_);refine with_tabW spec_GreatestFlow.tab15 spec_GreatestFlow.bits15 (fun HT_ HW_=>?_)
            generalize wr.drew=cV at c d a HB E hHeld⊢
            refine pu HT_ 1 64 (lb 12 2) ?_
            refine pu HT_ 2 65 (lb 12 6) ?_
            refine pu HT_ 3 66 (lb 12 14) ?_
            refine pu HT_ 4 67 (lb 12 30) ?_
            refine tk HT_ HW_ hHeld 0 63 (lb 12 31) ?_
            refine tk HT_ HW_ hHeld 5 68 (lb 12 63) ?_
            refine on HT_ 6 69 (lb 12 127) fun K hK=>?_
            refine goes_ Tryz.func59 (by kernel_rfl) rfl #[.agg #[.int .i64 l,.slice y j.length z],.slice G m.length J,.int .i64 (rd g b)] (by rfl) rfl rfl ga ?_
            refine cm (spec_l17Back.calls l _ _ j _ _ m (rd g b) aC bj _ (cb B HB) A.out (ck (Kd.R_reads' c.out).2.2) ((Kd.R_reads' c.out).2.1) aY.out) ?_
            rintro e cw ⟨rfl,hb⟩
            have ag:=(hb.cell (World.block_lt_of_cell? _ _ (hHeld.2.2))).trans (hHeld.2.2)
            refine⟨_,rfl,?_⟩
            replace c:=rb c hb
            replace d:=rb d hb
            replace a:=b1 a hb
            replace HB:=b2 hb
            (try clear hb)
            (try clear hk)
            refine hK.out _ _ ⟨qc a 0,qc a 1,ag⟩ (fun hHeld=>?_)
            clear hK K
            refine nm 69 ?_
            refine pu HT_ 7 62 (lb 12 255) ?_
            refine pu HT_ 8 70 (lb 12 511) ?_
            refine pu HT_ 9 71 (lb 12 1023) ?_
            refine pu HT_ 10 16 (lb 12 2047) ?_
            refine pu HT_ 11 17 (lb 12 4095) ?_
            refine done_ (done_of HT_.out (by kernel_rfl)) ?_
            have:(0≤(b:Int))=True:=ab
            have:(b<(g.length:Int))=True:=ab
            obtain⟨ax,aR,aX⟩:=Kd.at_int (Kd.R_reads' d.out).2.2 b asm asm
            obtain rfl:q=ax:=(by injection aR)
            try go_wp2
            replace c:=am (Kd.R_drew c.out)
            replace d:=am (Kd.R_drew d.out)
            replace a:=am (blk_drew a.out)
            replace HB:=am (below_drew1 HB.out)
            have:(0≤(b:Int))=True:=ab
            have:(b<(g.length:Int))=True:=ab
            obtain⟨bu,bQ,ao⟩:=Kd.at_int (Kd.R_reads' d.out).2.2 b asm asm
            obtain rfl:q=bu:=(by injection bQ)
            have:(0≤(b:Int))=True:=ab
            have:(b<(g.length:Int))=True:=ab
            obtain⟨bw,bR,ap⟩:=Kd.at_int (Kd.R_reads' d.out).2.2 b asm asm
            obtain rfl:q=bw:=(by injection bR)
            have:(0≤((s):Int))=True:=ab
            have:((s)<(m.length:Int))=True:=ab
            obtain⟨ce,bS,U⟩:=Kd.at_int (Kd.R_reads' c.out).2.2 (s) asm asm
            cases bS
            have bF:0≤((s):Int):=asm
            have bH:((s):Int)<((m.length:Int):Int):=asm
            obtain⟨aU,cI,a9,bf,b0,cF,a5⟩:=Kd.R_form c.out (by omega)
            (first|cases a9|(injection a9 with ea_ en_ ec_;(first|subst ea_|(injection ea_ with ea_;subst ea_));subst ec_;clear en_))
            have bL:=am bf
            have bN:=am a5
            clear bf b0 a5
            (first|simp only[add_plain]at U|skip)
            obtain⟨a3,aZ⟩:=Kd.R_celln 0 c.out ((s):Int) bF bH
            replace bF:=eq_true bF
            replace bH:=eq_true bH
            have aF:=Kd.R_putn c.out ((s):Int) (wrap64 ((rd m (s))+r))
            rw[←bn.out]at aF
            have a7:=am aF
            clear aF
            refine start_ (n:=18) (S:=fun w'=>w'.cell? (q.add (b).toNat)=some (.int .i64 (rd g b))∧w'.cell? (q.add (b).toNat)=some (.int .i64 (rd g b))∧w'.cell? ⟨aU,((s)).toNat,none⟩=some (.int .i64 (rd m (s)))) (ds:=[17]) (lb 18 0) (by kernel_rfl) rfl rfl ⟨ao,ap,U⟩ (fun hHeld=>?_);refine with_tabW spec_GreatestFlow.tab17 spec_GreatestFlow.bits17 (fun HT_ HW_=>?_)
            generalize cw.drew=cW at c d a HB bN a7 aZ a3 ao ap U hHeld⊢
            refine pu HT_ 0 77 (lb 18 1) ?_
            refine pu HT_ 1 78 (lb 18 3) ?_
            refine pu HT_ 2 79 (lb 18 7) ?_
            refine pu HT_ 3 80 (lb 18 15) ?_
            refine pu HT_ 6 83 (lb 18 79) ?_
            refine pu HT_ 7 84 (lb 18 207) ?_
            refine pu HT_ 8 85 (lb 18 463) ?_
            refine pu HT_ 9 86 (lb 18 975) ?_
            refine pu HT_ 14 91 (lb 18 17359) ?_
            refine tk HT_ HW_ hHeld 4 81 (lb 18 17375) ?_
            refine pu HT_ 5 82 (lb 18 17407) ?_
            refine tk HT_ HW_ hHeld 10 87 (lb 18 18431) ?_
            refine pu HT_ 11 88 (lb 18 20479) ?_
            refine pu HT_ 12 89 (lb 18 24575) ?_
            refine tk HT_ HW_ hHeld 13 90 (lb 18 32767) ?_
            refine pu HT_ 15 92 (lb 18 65535) ?_
            refine pu HT_ 16 93 (lb 18 131071) ?_
            refine last_ (i:=17) (N:=none) (lb 18 262143) rfl rfl (one_of HT_.out (by kernel_rfl)) (by decide) (fun K hK=>?_)
            refine skip_ (w1:=?_) (by rfl) rfl ?_ ?_
            rotate_left
            ·go_simp
             rfl
            refine hK.out _ _ ?_
            clear hK K
            refine done_ (done_of HT_.out (by kernel_rfl)) ?_
            try go_wp2
            (try simp only[←o])
            go_roundg k3
            case measure=>have:=ae.out;have:=af.out;have:=aD.out;omega
            case rel=>exact⟨(b8),(aC),(es),H,⟨by have:=ae.out;have:=af.out;have:=aD.out;omega⟩,⟨by(try simp only[o]);(with_reducible repeat (first|apply Kd.R_alloc|apply Kd.R_drewN|apply Kd.R_drew));exact a7.out⟩,⟨by(try simp only[o]);(with_reducible repeat (first|apply Kd.R_alloc|apply Kd.R_drewN|apply Kd.R_drew));exact Kd.R_mono (Kd.R_far (p:=⟨aU,((s):Int).toNat,none⟩) (Kd.R_mono d.out (fun k_ hk=>(⟨hk,fun e_=>hk (by rw[e_];rfl)⟩:_∧k_≠aU))) (fun _ hk=>hk.2) (.int .i64 (wrap64 ((rd m (s))+r)))) (fun _ hk=>hk.1)⟩,⟨by(try simp only[o]);(with_reducible repeat (first|refine blk_drewN ?_ _|refine blk_drew ?_|refine blk_alloc ?_ _));refine blk_far ?_ (by have h_:=Kd.R_ne c.out a.out (by decide);intro e_;exact h_ (by rw[e_];rfl)) _;(with_reducible repeat (first|refine blk_drewN ?_ _|refine blk_drew ?_|refine blk_alloc ?_ _));exact a.out⟩,⟨by repeat (first|(with_reducible first|exact HB.out|apply below_alloc|apply pw_below_drewN|apply below_drew1|refine below_set ?_ bL.out|refine below_set ?_ aw.out)|exact HB.out)⟩⟩
           ·obtain⟨t,ad⟩:∃j_:Int,(wrap64 ((wrap64 (-(rd g b)))-1))=j_:=⟨_,rfl⟩
            (first|rw[ad]at H|simp only[ad]at H)
            (try rw[ad]at aY)
            have cc:(IntKind.i64.wrap ((wrap64 (-(rd g b)))-1))=t:=(i64_w _).trans ad
            replace H:=i0 H;obtain⟨co,H⟩:=H
            replace H:=i0 H;obtain⟨cp,H⟩:=H
            generalize hy488:(m.set ((t):Int).toNat (wrap64 ((rd m (t))-r)):List Int)=b9 at H
            have bo:=am hy488.symm
            clear hy488
            replace H:=am H
            try go_wp2
            replace c:=am (Kd.R_drew c.out)
            replace d:=am (Kd.R_drew d.out)
            replace a:=am (blk_drew a.out)
            replace HB:=am (below_drew1 HB.out)
            obtain⟨cA,cL,bd⟩:=Kd.R_slice d.out
            (first|subst bd|(injection bd with f1_ f2_ f3_;have aS:=f1_.symm;have aT:=f3_.symm;clear f1_ f2_ f3_;subst aS;subst aT))
            have:(0≤(b:Int))=True:=ab
            have:(b<(g.length:Int))=True:=ab
            obtain⟨q,aQ,E⟩:=Kd.at_int (Kd.R_reads' d.out).2.2 b asm asm
            cases aQ
            refine start_ (n:=12) (S:=fun w'=>w'.cell? ⟨v,0,none⟩=some (.int .i64 l)∧w'.cell? ⟨v,1,none⟩=some (.slice y j.length z)∧w'.cell? (q.add (b).toNat)=some (.int .i64 (rd g b))) (ds:=[]) (lb 12 0) (by kernel_rfl) rfl rfl ⟨qc a 0,qc a 1,E⟩ (fun hHeld=>?_);refine with_tabW spec_GreatestFlow.tab15 spec_GreatestFlow.bits15 (fun HT_ HW_=>?_)
            generalize wr.drew=cX at c d a HB E hHeld⊢
            refine pu HT_ 1 64 (lb 12 2) ?_
            refine pu HT_ 2 65 (lb 12 6) ?_
            refine pu HT_ 3 66 (lb 12 14) ?_
            refine pu HT_ 4 67 (lb 12 30) ?_
            refine tk HT_ HW_ hHeld 0 63 (lb 12 31) ?_
            refine tk HT_ HW_ hHeld 5 68 (lb 12 63) ?_
            refine on HT_ 6 69 (lb 12 127) fun K hK=>?_
            refine goes_ Tryz.func59 (by kernel_rfl) rfl #[.agg #[.int .i64 l,.slice y j.length z],.slice G m.length J,.int .i64 (rd g b)] (by rfl) rfl rfl ga ?_
            refine cm (spec_l17Back.calls l _ _ j _ _ m (rd g b) aC bj _ (cb B HB) A.out (ck (Kd.R_reads' c.out).2.2) ((Kd.R_reads' c.out).2.1) aY.out) ?_
            rintro e cx ⟨rfl,hb⟩
            have ag:=(hb.cell (World.block_lt_of_cell? _ _ (hHeld.2.2))).trans (hHeld.2.2)
            refine⟨_,rfl,?_⟩
            replace c:=rb c hb
            replace d:=rb d hb
            replace a:=b1 a hb
            replace HB:=b2 hb
            (try clear hb)
            (try clear hk)
            refine hK.out _ _ ⟨qc a 0,qc a 1,ag⟩ (fun hHeld=>?_)
            clear hK K
            refine nm 69 ?_
            refine pu HT_ 7 62 (lb 12 255) ?_
            refine pu HT_ 8 70 (lb 12 511) ?_
            refine pu HT_ 9 71 (lb 12 1023) ?_
            refine pu HT_ 10 16 (lb 12 2047) ?_
            refine pu HT_ 11 17 (lb 12 4095) ?_
            refine done_ (done_of HT_.out (by kernel_rfl)) ?_
            have:(0≤(b:Int))=True:=ab
            have:(b<(g.length:Int))=True:=ab
            obtain⟨ax,aR,aX⟩:=Kd.at_int (Kd.R_reads' d.out).2.2 b asm asm
            obtain rfl:q=ax:=(by injection aR)
            try go_wp2
            replace c:=am (Kd.R_drew c.out)
            replace d:=am (Kd.R_drew d.out)
            replace a:=am (blk_drew a.out)
            replace HB:=am (below_drew1 HB.out)
            have:(0≤(b:Int))=True:=ab
            have:(b<(g.length:Int))=True:=ab
            obtain⟨bA,bT,aq⟩:=Kd.at_int (Kd.R_reads' d.out).2.2 b asm asm
            obtain rfl:q=bA:=(by injection bT)
            have:(0≤(b:Int))=True:=ab
            have:(b<(g.length:Int))=True:=ab
            obtain⟨bB,bU,ar⟩:=Kd.at_int (Kd.R_reads' d.out).2.2 b asm asm
            obtain rfl:q=bB:=(by injection bU)
            have:(0≤((t):Int))=True:=ab
            have:((t)<(m.length:Int))=True:=ab
            obtain⟨cf,bV,W⟩:=Kd.at_int (Kd.R_reads' c.out).2.2 (t) asm asm
            cases bV
            have bG:0≤((t):Int):=asm
            have bI:((t):Int)<((m.length:Int):Int):=asm
            obtain⟨aV,cK,bc,bg,b3,cG,a6⟩:=Kd.R_form c.out (by omega)
            (first|cases bc|(injection bc with ea_ en_ ec_;(first|subst ea_|(injection ea_ with ea_;subst ea_));subst ec_;clear en_))
            have bM:=am bg
            have bO:=am a6
            clear bg b3 a6
            (first|simp only[add_plain]at W|skip)
            obtain⟨a4,a0⟩:=Kd.R_celln 0 c.out ((t):Int) bG bI
            replace bG:=eq_true bG
            replace bI:=eq_true bI
            have aG:=Kd.R_putn c.out ((t):Int) (wrap64 ((rd m (t))-r))
            rw[←bo.out]at aG
            have a8:=am aG
            clear aG
            refine start_ (n:=20) (S:=fun w'=>w'.cell? (q.add (b).toNat)=some (.int .i64 (rd g b))∧w'.cell? (q.add (b).toNat)=some (.int .i64 (rd g b))∧w'.cell? ⟨aV,((t)).toNat,none⟩=some (.int .i64 (rd m (t)))) (ds:=[19]) (lb 20 0) (by kernel_rfl) rfl rfl ⟨aq,ar,W⟩ (fun hHeld=>?_);refine with_tabW spec_GreatestFlow.tab18 spec_GreatestFlow.bits18 (fun HT_ HW_=>?_)
            generalize cx.drew=cY at c d a HB bO a8 a0 a4 aq ar W hHeld⊢
            refine pu HT_ 0 94 (lb 20 1) ?_
            refine pu HT_ 1 95 (lb 20 3) ?_
            refine pu HT_ 2 96 (lb 20 7) ?_
            refine pu HT_ 3 97 (lb 20 15) ?_
            refine pu HT_ 7 101 (lb 20 143) ?_
            refine pu HT_ 8 102 (lb 20 399) ?_
            refine pu HT_ 9 103 (lb 20 911) ?_
            refine pu HT_ 10 104 (lb 20 1935) ?_
            refine pu HT_ 16 110 (lb 20 67471) ?_
            refine tk HT_ HW_ hHeld 4 98 (lb 20 67487) ?_
            refine pu HT_ 5 99 (lb 20 67519) ?_
            refine pu HT_ 6 100 (lb 20 67583) ?_
            refine tk HT_ HW_ hHeld 11 105 (lb 20 69631) ?_
            refine pu HT_ 12 106 (lb 20 73727) ?_
            refine pu HT_ 13 107 (lb 20 81919) ?_
            refine pu HT_ 14 108 (lb 20 98303) ?_
            refine tk HT_ HW_ hHeld 15 109 (lb 20 131071) ?_
            refine pu HT_ 17 111 (lb 20 262143) ?_
            refine pu HT_ 18 112 (lb 20 524287) ?_
            refine last_ (i:=19) (N:=none) (lb 20 1048575) rfl rfl (one_of HT_.out (by kernel_rfl)) (by decide) (fun K hK=>?_)
            refine skip_ (w1:=?_) (by rfl) rfl ?_ ?_
            rotate_left
            ·go_simp
             rfl
            refine hK.out _ _ ?_
            clear hK K
            refine done_ (done_of HT_.out (by kernel_rfl)) ?_
            try go_wp2
            (try simp only[←o])
            go_roundg k3
            case measure=>have:=ae.out;have:=af.out;have:=aD.out;omega
            case rel=>exact⟨(b9),(aC),(es),H,⟨by have:=ae.out;have:=af.out;have:=aD.out;omega⟩,⟨by(try simp only[o]);(with_reducible repeat (first|apply Kd.R_alloc|apply Kd.R_drewN|apply Kd.R_drew));exact a8.out⟩,⟨by(try simp only[o]);(with_reducible repeat (first|apply Kd.R_alloc|apply Kd.R_drewN|apply Kd.R_drew));exact Kd.R_mono (Kd.R_far (p:=⟨aV,((t):Int).toNat,none⟩) (Kd.R_mono d.out (fun k_ hk=>(⟨hk,fun e_=>hk (by rw[e_];rfl)⟩:_∧k_≠aV))) (fun _ hk=>hk.2) (.int .i64 (wrap64 ((rd m (t))-r)))) (fun _ hk=>hk.1)⟩,⟨by(try simp only[o]);(with_reducible repeat (first|refine blk_drewN ?_ _|refine blk_drew ?_|refine blk_alloc ?_ _));refine blk_far ?_ (by have h_:=Kd.R_ne c.out a.out (by decide);intro e_;exact h_ (by rw[e_];rfl)) _;(with_reducible repeat (first|refine blk_drewN ?_ _|refine blk_drew ?_|refine blk_alloc ?_ _));exact a.out⟩,⟨by repeat (first|(with_reducible first|exact HB.out|apply below_alloc|apply pw_below_drewN|apply below_drew1|refine below_set ?_ bM.out|refine below_set ?_ aw.out)|exact HB.out)⟩⟩
       ·replace H:=i0 H;obtain⟨cq,H⟩:=H
        replace H:=i0 H;obtain⟨cs,H⟩:=H
        replace H:=bm H;obtain⟨⟨bi,aB⟩,bK,H⟩:=H;dsimp only at H
        obtain⟨bh,T⟩:∃j_:Int,(mn r aB)=j_:=⟨_,rfl⟩
        (first|rw[T]at H|simp only[T]at H)
        (try rw[T]at bK)
        have cd:(if aB<r then aB else r)=bh:=T
        replace H:=am H
        try go_wp2
        replace c:=am (Kd.R_drew c.out)
        replace d:=am (Kd.R_drew d.out)
        replace a:=am (blk_drew a.out)
        replace HB:=am (below_drew1 HB.out)
        obtain⟨cB,cM,be⟩:=Kd.R_slice d.out
        (first|subst be|(injection be with f1_ f2_ f3_;have aS:=f1_.symm;have aT:=f3_.symm;clear f1_ f2_ f3_;subst aS;subst aT))
        have:(0≤(x:Int))=True:=ab
        have:(x<(g.length:Int))=True:=ab
        obtain⟨br,bP,an⟩:=Kd.at_int (Kd.R_reads' d.out).2.2 x asm asm
        cases bP
        refine start_ (n:=12) (S:=fun w'=>w'.cell? ⟨v,0,none⟩=some (.int .i64 l)∧w'.cell? ⟨v,1,none⟩=some (.slice y j.length z)∧w'.cell? (br.add (x).toNat)=some (.int .i64 (rd g x))) (ds:=[]) (lb 12 0) (by kernel_rfl) rfl rfl ⟨qc a 0,qc a 1,an⟩ (fun hHeld=>?_);refine with_tabW spec_GreatestFlow.tab10 spec_GreatestFlow.bits10 (fun HT_ HW_=>?_)
        generalize wr.drew=cZ at c d a HB an hHeld⊢
        refine pu HT_ 1 46 (lb 12 2) ?_
        refine pu HT_ 2 47 (lb 12 6) ?_
        refine pu HT_ 3 48 (lb 12 14) ?_
        refine pu HT_ 4 49 (lb 12 30) ?_
        refine tk HT_ HW_ hHeld 0 45 (lb 12 31) ?_
        refine tk HT_ HW_ hHeld 5 50 (lb 12 63) ?_
        refine on HT_ 6 51 (lb 12 127) fun K hK=>?_
        refine goes_ Tryz.func59 (by kernel_rfl) rfl #[.agg #[.int .i64 l,.slice y j.length z],.slice G u.length J,.int .i64 (rd g x)] (by rfl) rfl rfl ga ?_
        refine cm (spec_l17Back.calls l _ _ j _ _ u (rd g x) bi aB _ (cb B HB) A.out (ck (Kd.R_reads' c.out).2.2) ((Kd.R_reads' c.out).2.1) bK.out) ?_
        rintro e c0 ⟨rfl,hb⟩
        have ag:=(hb.cell (World.block_lt_of_cell? _ _ (hHeld.2.2))).trans (hHeld.2.2)
        refine⟨_,rfl,?_⟩
        replace c:=rb c hb
        replace d:=rb d hb
        replace a:=b1 a hb
        replace HB:=b2 hb
        (try clear hb)
        (try clear hk)
        refine hK.out _ _ ⟨qc a 0,qc a 1,ag⟩ (fun hHeld=>?_)
        clear hK K
        refine nm 51 ?_
        refine pu HT_ 7 44 (lb 12 255) ?_
        refine pu HT_ 8 52 (lb 12 511) ?_
        refine pu HT_ 9 53 (lb 12 1023) ?_
        refine pu HT_ 10 13 (lb 12 2047) ?_
        refine pu HT_ 11 14 (lb 12 4095) ?_
        refine done_ (done_of HT_.out (by kernel_rfl)) ?_
        try go_wp2
        go_roundg k2
        case measure=>have:=ae.out;have:=af.out;omega
        case rel=>exact⟨(bh),(bi),(by first|rfl|(simp;done)|(simp only[←T]<;>(first|rfl|simp))|(simp [*];done)),(es),H,⟨by have:=ae.out;have:=af.out;omega⟩,⟨rk c.out⟩,⟨rk d.out⟩,⟨bk a.out⟩,⟨bel⟩⟩
    ·obtain⟨rfl,rfl⟩:=qj2 H
     obtain⟨_,_,_,_⟩:=cf2 a.out
     obtain⟨cC,cN,bY⟩:=Kd.R_slice c.out
     subst bY
     go_wp2_with (first|((with_reducible refine gc 58 ?_);refine gl 31 Tryz.func58 (spec_l17Reach.calls k1 l _ _ j a1 _ _ u g au _ (cb B HB) A.out (ck (Kd.R_reads' c.out).2.2) (rn c) bJ.out) ?_;rintro e c1 ⟨av,b6,rfl,ay,aW,hb⟩;refine⟨_,rfl,?_⟩;have aE:=am (Kd.R_lower (Kd.R_new' ay (Kd.R_lt (rk c.out))) (below_size bel));have I:=am (Kd.R_lower aW (below_size bel));replace c:=am (Kd.R_elder' (rk c.out) (Kd.R_base ay) hb);replace a:=b1 a hb;replace HB:=b2 hb;(try clear hb);(try clear ay);(try clear aW);obtain⟨cD,cO,bZ⟩:=Kd.R_slice I.out;subst bZ;have:(0≤(a2:Int))=True:=ab;have:(a2<(au.length:Int))=True:=ab;obtain⟨bp,aP,D⟩:=Kd.at_bool (Kd.R_reads' I.out).2.2 a2 asm asm;(try rw[←aH.out]at D);cases aP))
     go_ret2
     exact⟨_,er,by(with_reducible repeat (first|apply Kd.R_alloc|apply Kd.R_drewN|apply Kd.R_drew));exact Kd.R_mono c.out (fun _ hk=>trivial),bel⟩
 ·obtain⟨rfl,rfl⟩:=qj2 H
  go_enter Tryz.func35,Tryz.ntmps35
  go_wp2_with (first|((with_reducible refine gd 3 ?_);refine bx w 3 #[.int .i64 l,.slice y j.length z] 65 ?_;clear HB;intro v da a aw HB;obtain⟨_,_,_,_⟩:=cf2 a.out)|((with_reducible refine gc 57 ?_);refine gl 21 Tryz.func57 (spec_l17Ends.calls k l _ _ j a1 a2 false _ (cb B HB) A.out A4.out) ?_;rintro e db ⟨rfl,hb⟩;refine⟨_,rfl,?_⟩;replace a:=b1 a hb;replace HB:=b2 hb;(try clear hb)))
  go_ret2
  exact⟨_,er,qk,bel⟩
end Go.Proofs.YtgalpgakdcfilaaGreat.L
