/- Tables of seasons, points of all teams, best points: program and reference alike. -/
import Derived.Test.YtgalpgakdcfilaaGreatBookB
import Derived.Test.YtgalpgakdcfilaaGreatL21
import Derived.Test.YtgalpgakdcfilaaGreatL23
import Derived.Test.YtgalpgakdcfilaaGreatL24
import Derived.Test.YtgalpgakdcfilaaGreatL44
import Derived.Test.YtgalpgakdcfilaaGreatL48
import Derived.Test.YtgalpgakdcfilaaGreatL50
namespace Go.Proofs.YtgalpgakdcfilaaGreat.L
set_option linter.unusedVariables false
set_option linter.unusedSimpArgs false
open Go.RowKit Go.Proofs.YtgalpgakdcfilaaGreatW.PrintWords Go.Proofs.YtgalpgakdcfilaaGreat.PK
abbrev R1:=S112
def in64(n:Int):Prop:= -9223372036854775808≤n∧n≤9223372036854775807
theorem w64in(n:Int):in64 (wrap64 n):=by unfold in64 wrap64;omega
theorem w64id{n:Int}(h:in64 n):wrap64 (n+0)=n:=by rw[Int.add_zero];exact w64 h.1 h.2
structure Rng (r:R1):Prop where
  g0:in64 r.f0
  g1:in64 r.f1
  g2:in64 r.f2
  g3:in64 r.f3
  g4:in64 r.f4
  g5:in64 r.f5
  g6:in64 r.f6
def up(r:R1)(p0 p1 p2 p3 p4 p5 p6:Int):R1:=⟨wrap64 (r.f0+p0),wrap64 (r.f1+p1),wrap64 (r.f2+p2),wrap64 (r.f3+p3),wrap64 (r.f4+p4),wrap64 (r.f5+p5),wrap64 (r.f6+p6)⟩
theorem up_rng(r:R1)(p0 p1 p2 p3 p4 p5 p6:Int):Rng (up r p0 p1 p2 p3 p4 p5 p6):=⟨w64in _,w64in _,w64in _,w64in _,w64in _,w64in _,w64in _⟩
def two(l:List R1)(h a:Nat)(u v:R1):List R1:=(l.set h u).set a v
theorem two_len(l:List R1)(h a:Nat)(u v:R1):(two l h a u v).length=l.length:=by simp [two]
theorem rdR{l:List R1}{i:Int}{n:Nat}(e:i.toNat=n)(h:n<l.length):rd_T112 l i=l[n]:=by
  subst e;simp [rd_T112,List.getD_eq_getElem?_getD,h]
theorem two_id{l:List R1}{h a:Int}{m n:Nat}(e:h.toNat=m)(e':a.toNat=n)(hm:m<l.length)(hn:n<l.length):two l m n (rd_T112 l h) (rd_T112 l a)=l:=by
  rw[rdR e hm,rdR e' hn];simp [two]
theorem two_h{l:List R1}{i:Int}{m n:Nat}{u v:R1}(e:i.toNat=m)(hm:m<l.length)(hne:n≠m)(j:Nat)(d:Int):tb.add (two l m n u v) i j d=two l m n (tb.put u (wrap64 (tb.fld u j+d)) j) v:=by
  unfold tb.add
  rw[rdR e (by rw[two_len];exact hm),e]
  have hg:(two l m n u v)[m]'(by rw[two_len];exact hm)=u:=by unfold two;rw[List.getElem_set_ne hne,List.getElem_set_self]
  rw[hg]
  unfold two
  rw[List.set_comm _ _ hne,List.set_set]
theorem two_a{l:List R1}{i:Int}{m n:Nat}{u v:R1}(e:i.toNat=n)(hn:n<l.length)(j:Nat)(d:Int):tb.add (two l m n u v) i j d=two l m n u (tb.put v (wrap64 (tb.fld v j+d)) j):=by
  unfold tb.add
  rw[rdR e (by rw[two_len];exact hn),e]
  have hg:(two l m n u v)[n]'(by rw[two_len];exact hn)=v:=by unfold two;rw[List.getElem_set_self]
  rw[hg]
  unfold two
  rw[List.set_set]
theorem two_rng{l:List R1}{m n:Nat}{u v:R1}(hl:∀r∈l,Rng r)(hu:Rng u)(hv:Rng v):∀r∈two l m n u v,Rng r:=by
  intro r hr
  rcases List.mem_or_eq_of_mem_set hr with hr|rfl
  · rcases List.mem_or_eq_of_mem_set hr with hr|rfl
    · exact hl r hr
    · exact hu
  · exact hv
theorem fin_two{l:List R1}{h a:Int}{m n:Nat}(e:h.toNat=m)(e':a.toNat=n)(h0:0≤h)(a0:0≤a)(hm:m<l.length)(hn:n<l.length)(hne:n≠m)(p0 p1 p2 p3 p4 p5 p6 q0 q1 q2 q3 q4 q5 q6:Int):
    spec_l06Add.fin l h a p0 p1 p2 p3 p4 p5 p6 q0 q1 q2 q3 q4 q5 q6=some (two l m n (up (rd_T112 l h) p0 p1 p2 p3 p4 p5 p6) (up (rd_T112 l a) q0 q1 q2 q3 q4 q5 q6)):=by
  unfold spec_l06Add.fin
  rw[if_pos h0,if_pos (by omega)]
  unfold spec_AddRows.f
  simp only[Option.bind_some]
  rw[if_pos a0,if_pos (by omega),e,e']
  have hg:rd_T112 (l.set m (up (rd_T112 l h) p0 p1 p2 p3 p4 p5 p6)) a=rd_T112 l a:=by
    rw[rdR e' (by rw[List.length_set];exact hn),rdR e' hn,List.getElem_set_ne (by omega)]
  unfold up at hg⊢
  rw[hg]
  rfl
theorem game_rows{l:List R1}{h a:Int}{m n:Nat}(e:h.toNat=m)(e':a.toNat=n)(hm:m<l.length)(hn:n<l.length)(hne:n≠m)(hl:∀r∈l,Rng r)(x y w d b:Int):
    (tb.add (tb.add (tb.add (tb.add (tb.add (tb.add (tb.add (tb.add (tb.add (tb.add l h 0 1) a 0 1) h 4 x) h 5 y) a 4 y) a 5 x) h 1 1) a 3 1) h 6 w) a 6 b=two l m n (up (rd_T112 l h) 1 1 0 0 x y w) (up (rd_T112 l a) 1 0 0 1 y x b))∧
    (tb.add (tb.add (tb.add (tb.add (tb.add (tb.add (tb.add (tb.add (tb.add (tb.add l h 0 1) a 0 1) h 4 x) h 5 y) a 4 y) a 5 x) a 1 1) h 3 1) a 6 w) h 6 b=two l m n (up (rd_T112 l h) 1 0 0 1 x y b) (up (rd_T112 l a) 1 1 0 0 y x w))∧
    (tb.add (tb.add (tb.add (tb.add (tb.add (tb.add (tb.add (tb.add (tb.add (tb.add l h 0 1) a 0 1) h 4 x) h 5 y) a 4 y) a 5 x) h 2 1) a 2 1) h 6 d) a 6 d=two l m n (up (rd_T112 l h) 1 0 1 0 x y d) (up (rd_T112 l a) 1 0 1 0 y x d)):=by
  have hu:Rng (rd_T112 l h):=by rw[rdR e hm];exact hl _ (List.getElem_mem _)
  have hv:Rng (rd_T112 l a):=by rw[rdR e' hn];exact hl _ (List.getElem_mem _)
  generalize hU:rd_T112 l h=U at hu
  generalize hV:rd_T112 l a=V at hv
  have h0:l=two l m n U V:=by rw[←hU,←hV];exact(two_id e e' hm hn).symm
  obtain⟨u0,u1,u2,u3,u4,u5,u6⟩:=U
  obtain⟨v0,v1,v2,v3,v4,v5,v6⟩:=V
  have k1:=w64id hu.g1;have k2:=w64id hu.g2;have k3:=w64id hu.g3
  have j1:=w64id hv.g1;have j2:=w64id hv.g2;have j3:=w64id hv.g3
  simp only at k1 k2 k3 j1 j2 j3
  refine⟨?_,?_,?_⟩<;>
  · conv=>lhs;rw[h0]
    simp only[two_h e hm hne,two_a e' hn,tb.put,tb.fld,up,k1,k2,k3,j1,j2,j3]
def gOk(n:Nat)(g:G1):Prop:=0≤g.f0∧g.f0<(n:Int)∧0≤g.f1∧g.f1<(n:Int)∧g.f0≠g.f1
theorem tab_step(u0 u1 u2:Int)(o:List Int)(d:Bool)(l:List R1)(gs:List G1)(i:Nat)(hi:i<gs.length)(hg:gOk l.length gs[i])(hz:gs.length≤1048576)(hl:∀r∈l,Rng r):
    ∃l':List R1,l'.length=l.length∧(∀r∈l',Rng r)∧∀T:List R1,
      (Ev (fun k=>spec_l06Among.l0 k [] true l' gs (gs.length:Int) ((i+1:Nat):Int) u0 u1 u2 o d) T→Ev (fun k=>spec_l06Among.l0 k [] true l gs (gs.length:Int) (i:Int) u0 u1 u2 o d) T)∧
      (Ev (fun k=>impl_tableOf_impl_rankerOf_1.l0 k l' gs (gs.length:Int) ((i+1:Nat):Int) u0 u1 u2 o d) T→Ev (fun k=>impl_tableOf_impl_rankerOf_1.l0 k l gs (gs.length:Int) (i:Int) u0 u1 u2 o d) T):=by
  have hw:wrap64 ((i:Int)+1)=((i+1:Nat):Int):=w64s (by omega)
  obtain⟨h0,h1,a0,a1,hne⟩:=hg
  generalize hG:gs[i]=g at h0 h1 a0 a1 hne
  have hr:rd_T79 gs (i:Int)=g:=by rw[rdG1 hi,hG]
  have goal0:∀(l':List R1),spec_l06Add.f u0 u1 u2 o d l g.f0 g.f1 g.f2 g.f3 g.f4=some l'→∀T:List R1,Ev (fun k=>spec_l06Among.l0 k [] true l' gs (gs.length:Int) ((i+1:Nat):Int) u0 u1 u2 o d) T→Ev (fun k=>spec_l06Among.l0 k [] true l gs (gs.length:Int) (i:Int) u0 u1 u2 o d) T:=by
    intro l' hl' T hT
    refine Ev.step (fun k=>spec_l06Among.l0.eq_2 ..) (Ev.pos (by omega) (Ev.pos (by omega) (Ev.pos (by omega) (Ev.pos rfl ?_))))
    rw[hr,hw]
    exact Ev.bind0 hl' hT
  obtain⟨x,y,hgo⟩:∃x y:Int,(spec_GoalsOf.f g.f0 g.f1 g.f2 g.f3 g.f4=some (x,y,true)∧impl_GoalsOf.f g.f0 g.f1 g.f2 g.f3 g.f4=some (x,y,true))∨(spec_GoalsOf.f g.f0 g.f1 g.f2 g.f3 g.f4=some (x,y,false)∧impl_GoalsOf.f g.f0 g.f1 g.f2 g.f3 g.f4=some (x,y,false)):=by
    unfold spec_GoalsOf.f impl_GoalsOf.f
    by_cases c1:g.f4=1
    · rw[if_pos c1];exact⟨_,_,.inl ⟨rfl,rfl⟩⟩
    · rw[if_neg c1]
      by_cases c2:g.f4=2
      · rw[if_pos c2];exact⟨_,_,.inl ⟨rfl,rfl⟩⟩
      · rw[if_neg c2]
        by_cases c3:g.f4=3
        · rw[if_pos c3];exact⟨_,_,.inl ⟨rfl,rfl⟩⟩
        · rw[if_neg c3];exact⟨_,_,.inr ⟨rfl,rfl⟩⟩
  rcases hgo with ⟨s1,i1⟩|⟨s1,i1⟩
  ·
    obtain⟨gA,gB,gC⟩:=game_rows (l:=l) (h:=g.f0) (a:=g.f1) rfl rfl (by omega) (by omega) (by omega) hl x y u0 u1 u2
    have ft:=fin_two (l:=l) (h:=g.f0) (a:=g.f1) rfl rfl h0 a0 (by omega) (by omega) (by omega)
    have goal1:∀(l':List R1),(∀k,((if x>y then(impl_tableOf_impl_rankerOf_1.l0 k (tb.add (tb.add (tb.add (tb.add (tb.add (tb.add (tb.add (tb.add (tb.add (tb.add l g.f0 0 1) g.f1 0 1) g.f0 4 x) g.f0 5 y) g.f1 4 y) g.f1 5 x) g.f0 1 1) g.f1 3 1) g.f0 6 u0) g.f1 6 u2) gs (gs.length:Int) ((i+1:Nat):Int) u0 u1 u2 o d)else(if x<y then(impl_tableOf_impl_rankerOf_1.l0 k (tb.add (tb.add (tb.add (tb.add (tb.add (tb.add (tb.add (tb.add (tb.add (tb.add l g.f0 0 1) g.f1 0 1) g.f0 4 x) g.f0 5 y) g.f1 4 y) g.f1 5 x) g.f1 1 1) g.f0 3 1) g.f1 6 u0) g.f0 6 u2) gs (gs.length:Int) ((i+1:Nat):Int) u0 u1 u2 o d)else(impl_tableOf_impl_rankerOf_1.l0 k (tb.add (tb.add (tb.add (tb.add (tb.add (tb.add (tb.add (tb.add (tb.add (tb.add l g.f0 0 1) g.f1 0 1) g.f0 4 x) g.f0 5 y) g.f1 4 y) g.f1 5 x) g.f0 2 1) g.f1 2 1) g.f0 6 u1) g.f1 6 u1) gs (gs.length:Int) ((i+1:Nat):Int) u0 u1 u2 o d)))=impl_tableOf_impl_rankerOf_1.l0 k l' gs (gs.length:Int) ((i+1:Nat):Int) u0 u1 u2 o d))→∀T:List R1,Ev (fun k=>impl_tableOf_impl_rankerOf_1.l0 k l' gs (gs.length:Int) ((i+1:Nat):Int) u0 u1 u2 o d) T→Ev (fun k=>impl_tableOf_impl_rankerOf_1.l0 k l gs (gs.length:Int) (i:Int) u0 u1 u2 o d) T:=by
      intro l' hk T hT
      refine Ev.step (fun k=>impl_tableOf_impl_rankerOf_1.l0.eq_2 ..) (Ev.pos (by omega) (Ev.pos (by omega) (Ev.pos (by omega) ?_)))
      rw[hr]
      refine Ev.bind0 i1 (Ev.pos rfl (Ev.bind0 (a:=true) rfl ?_))
      refine Ev.step (fun k=>impl_tableOf_impl_rankerOf_1.j1.eq_2 ..) (Ev.neg (by simp) (Ev.pos h0 (Ev.pos h1 (Ev.pos a0 (Ev.pos a1 ?_)))))
      rw[hw]
      simp only[hk]
      exact hT
    by_cases c1:x>y
    · refine⟨two l g.f0.toNat g.f1.toNat (up (rd_T112 l g.f0) 1 1 0 0 x y u0) (up (rd_T112 l g.f1) 1 0 0 1 y x u2),two_len _ _ _ _ _,two_rng hl (up_rng _ _ _ _ _ _ _ _) (up_rng _ _ _ _ _ _ _ _),fun T=>⟨goal0 _ ?_ T,goal1 _ (fun k=>?_) T⟩⟩
      rotate_left
      · rw[if_pos c1,gA]
      · unfold spec_l06Add.f spec_OutcomeOf.f
        rw[s1]
        simp only[Option.bind_some,if_true]
        rw[if_pos c1]
        simp only[Option.bind_some,if_true]
        exact ft ..
    · by_cases c2:x<y
      · refine⟨two l g.f0.toNat g.f1.toNat (up (rd_T112 l g.f0) 1 0 0 1 x y u2) (up (rd_T112 l g.f1) 1 1 0 0 y x u0),two_len _ _ _ _ _,two_rng hl (up_rng _ _ _ _ _ _ _ _) (up_rng _ _ _ _ _ _ _ _),fun T=>⟨goal0 _ ?_ T,goal1 _ (fun k=>?_) T⟩⟩
        rotate_left
        · rw[if_neg c1,if_pos c2,gB]
        · unfold spec_l06Add.f spec_OutcomeOf.f
          rw[s1]
          simp only[Option.bind_some,if_true]
          rw[if_neg c1,if_neg (by omega)]
          simp only[Option.bind_some]
          rw[if_neg (by decide),if_neg (by decide),if_pos trivial]
          exact ft ..
      · refine⟨two l g.f0.toNat g.f1.toNat (up (rd_T112 l g.f0) 1 0 1 0 x y u1) (up (rd_T112 l g.f1) 1 0 1 0 y x u1),two_len _ _ _ _ _,two_rng hl (up_rng _ _ _ _ _ _ _ _) (up_rng _ _ _ _ _ _ _ _),fun T=>⟨goal0 _ ?_ T,goal1 _ (fun k=>?_) T⟩⟩
        rotate_left
        · rw[if_neg c1,if_neg c2,gC]
        · unfold spec_l06Add.f spec_OutcomeOf.f
          rw[s1]
          simp only[Option.bind_some,if_true]
          rw[if_neg c1,if_pos (by omega)]
          simp only[Option.bind_some]
          rw[if_neg (by decide),if_pos trivial]
          exact ft ..
  ·
    refine⟨l,rfl,hl,fun T=>⟨goal0 l (by unfold spec_l06Add.f;rw[s1];rfl) T,fun hT=>?_⟩⟩
    refine Ev.step (fun k=>impl_tableOf_impl_rankerOf_1.l0.eq_2 ..) (Ev.pos (by omega) (Ev.pos (by omega) (Ev.pos (by omega) ?_)))
    rw[hr]
    refine Ev.bind0 i1 (Ev.neg (by simp) ?_)
    refine Ev.step (fun k=>impl_tableOf_impl_rankerOf_1.j1.eq_2 ..) (Ev.pos rfl ?_)
    rw[hw]
    exact hT
theorem tab_same(u0 u1 u2:Int)(o:List Int)(d:Bool)(n:Nat)(gs:List G1)(hn:n≤8)(hz:gs.length≤1048576)(hg:∀i (h:i<gs.length),gOk n gs[i]):
    ∃T:List R1,T.length=n∧Ev (fun k=>spec_l06Among.f k u0 u1 u2 o d (n:Int) gs [] true) T∧Ev (fun k=>impl_tableOf_impl_rankerOf_1.f k u0 u1 u2 o d (n:Int) gs) T:=by
  have:=down (g:=fun i=>∀l:List R1,l.length=n→(∀r∈l,Rng r)→∃T:List R1,T.length=n∧Ev (fun k=>spec_l06Among.l0 k [] true l gs (gs.length:Int) (i:Int) u0 u1 u2 o d) T∧Ev (fun k=>impl_tableOf_impl_rankerOf_1.l0 k l gs (gs.length:Int) (i:Int) u0 u1 u2 o d) T) (n:=gs.length) (fun i hi hs l hl hr=>by
    obtain⟨l',e,hr',h⟩:=tab_step u0 u1 u2 o d l gs i hi (by rw[hl];exact hg i hi) hz hr
    obtain⟨T,t0,t1,t2⟩:=hs l' (e.trans hl) hr'
    exact⟨T,t0,(h T).1 t1,(h T).2 t2⟩) (fun l hl hr=>⟨l,hl,Ev.step (fun k=>spec_l06Among.l0.eq_2 ..) (Ev.neg (by omega) (Ev.now _)),Ev.step (fun k=>impl_tableOf_impl_rankerOf_1.l0.eq_2 ..) (Ev.neg (by omega) (Ev.now _))⟩) gs.length 0 (by omega)
  obtain⟨T,t0,t1,t2⟩:=this (List.replicate n z112) (by simp) (fun r hr=>by
    rw[List.mem_replicate]at hr
    rw[hr.2]
    exact⟨by simp [in64,z112],by simp [in64,z112],by simp [in64,z112],by simp [in64,z112],by simp [in64,z112],by simp [in64,z112],by simp [in64,z112]⟩)
  have hN:((n:Int).toNat)=n:=by omega
  refine⟨T,t0,?_,?_⟩
  · unfold spec_l06Among.f
    rw[hN]
    exact Ev.pos (by omega) (Ev.pos (by omega) t1)
  · unfold impl_tableOf_impl_rankerOf_1.f
    rw[hN]
    exact Ev.pos (by omega) (Ev.pos (by omega) t2)
theorem pts_same(t:List T1)(a b c:Int)(o:List Int)(d:Bool)(g:List G1)(f q:List Int)(hn:t.length≤8)(hq:q.length=t.length)(hz:g.length≤1048576)(hg:∀i (h:i<g.length),gOk t.length g[i]):
    ∃P:List Int,P.length=t.length∧Ev (fun k=>spec_l18Points.f k t a b c o d g f q) P∧Ev (fun k=>impl_points.f k t a b c o d g f q) P:=by
  obtain⟨T,t0,t1,t2⟩:=tab_same a b c o d t.length g hn hz hg
  have:=down (g:=fun i=>∀acc:List Int,acc.length=i→∃P:List Int,P.length=t.length∧Ev (fun k=>spec_l18Points.l0 k acc T (T.length:Int) (i:Int) t a b c o d g f q) P∧Ev (fun k=>impl_points.l0 k acc T (T.length:Int) (i:Int) t a b c o d g f q) P) (n:=T.length) (fun i hi hs acc ha=>by
    have hw:wrap64 ((i:Int)+1)=((i+1:Nat):Int):=w64s (by omega)
    obtain⟨P,p0,p1,p2⟩:=hs (acc++[wrap64 (((rd_T112 T (i:Int)).f6)-(rd q (i:Int)))]) (by rw[List.length_append,List.length_singleton,ha])
    refine⟨P,p0,Ev.step (fun k=>spec_l18Points.l0.eq_2 ..) (Ev.pos (by omega) (Ev.pos (by omega) (Ev.pos (by omega) (Ev.pos (by omega) (Ev.pos (by omega) ?_))))),Ev.step (fun k=>impl_points.l0.eq_2 ..) (Ev.pos (by omega) (Ev.pos (by omega) (Ev.pos (by omega) (Ev.pos (by omega) (Ev.pos (by omega) ?_)))))⟩
    · rw[hw];exact p1
    · rw[hw];exact p2) (fun acc ha=>⟨acc,ha.trans t0,Ev.step (fun k=>spec_l18Points.l0.eq_2 ..) (Ev.neg (by omega) (Ev.now _)),Ev.step (fun k=>impl_points.l0.eq_2 ..) (Ev.neg (by omega) (Ev.now _))⟩) T.length 0 (by omega)
  obtain⟨P,p0,p1,p2⟩:=this [] rfl
  exact⟨P,p0,Ev.bind t1 p1,Ev.bind t2 p2⟩
def opensF(gs:List G1):Nat→Nat→List Int
  |0,_=>[]
  |d+1,i=>if((gs.getD i z79).f4==0)=true then(i:Int)::opensF gs d (i+1)else opensF gs d (i+1)
def opens(gs:List G1)(i:Nat):List Int:=opensF gs (gs.length-i) i
theorem opens_pos{gs:List G1}{i:Nat}(h:i<gs.length)(c:(gs[i].f4==0)=true):opens gs i=(i:Int)::opens gs (i+1):=by
  unfold opens
  rw[show gs.length-i=(gs.length-(i+1))+1 by omega]
  conv=>lhs;unfold opensF
  rw[getDG h,if_pos c]
theorem opens_neg{gs:List G1}{i:Nat}(h:i<gs.length)(c:¬(gs[i].f4==0)=true):opens gs i=opens gs (i+1):=by
  unfold opens
  rw[show gs.length-i=(gs.length-(i+1))+1 by omega]
  conv=>lhs;unfold opensF
  rw[getDG h,if_neg c]
theorem opens_end(gs:List G1):opens gs gs.length= []:=by unfold opens;rw[Nat.sub_self];rfl
theorem opensF_len(gs:List G1)(d:Nat):∀i,(opensF gs d i).length≤d:=by
  induction d with
  |zero=>intro i;exact Nat.le_refl _
  |succ d ih=>
    intro i
    unfold opensF
    split
    · have:=ih (i+1);rw[List.length_cons];omega
    · have:=ih (i+1);omega
theorem opens_len(gs:List G1):(opens gs 0).length≤gs.length:=by have:=opensF_len gs gs.length 0;unfold opens;exact this
theorem impl_opens(gs:List G1)(hl:gs.length≤1048576):Ev (fun k=>impl_OpenGames.f k gs) (opens gs 0):=by
  have:=down (g:=fun i=>∀acc:List Int,acc.length≤i→Ev (fun k=>impl_gamesWhere_impl_IsOpen.l0 k acc gs (gs.length:Int) (i:Int)) (acc++opens gs i)) (n:=gs.length) (fun i hi hs acc ha=>by
    have hw:wrap64 ((i:Int)+1)=((i+1:Nat):Int):=w64s (by omega)
    by_cases c:(gs[i].f4==0)=true
    · have h1:=hs (acc++[(i:Int)]) (by rw[List.length_append,List.length_singleton];omega)
      rw[List.append_assoc,List.singleton_append,←opens_pos hi c]at h1
      refine Ev.step (fun k=>impl_gamesWhere_impl_IsOpen.l0.eq_2 ..) (Ev.pos (by omega) (Ev.pos (by omega) (Ev.pos (by omega) (Ev.bind0 (a:=true) ?_ (Ev.pos rfl (Ev.pos (by omega) ?_))))))
      · rw[rdG1 hi];exact congrArg some c
      · rw[hw];exact h1
    · have h1:=hs acc (by omega)
      rw[←opens_neg hi c]at h1
      have c':(gs[i].f4==0)=false:=Bool.eq_false_iff.2 c
      refine Ev.step (fun k=>impl_gamesWhere_impl_IsOpen.l0.eq_2 ..) (Ev.pos (by omega) (Ev.pos (by omega) (Ev.pos (by omega) (Ev.bind0 (a:=false) ?_ (Ev.neg (by simp) ?_)))))
      · rw[rdG1 hi];exact congrArg some c'
      · rw[hw];exact h1) (fun acc ha=>by
    rw[opens_end,List.append_nil]
    exact Ev.step (fun k=>impl_gamesWhere_impl_IsOpen.l0.eq_2 ..) (Ev.neg (by omega) (Ev.now _))) gs.length 0 (by omega)
  have h:=this [] (by simp)
  rw[List.nil_append]at h
  exact Ev.bind h (Ev.now _)
theorem drop_cons{α:Type}{l rest:List α}{j:Nat}{x:α}(h:l.drop j=x::rest):∃hj:j<l.length,l[j]=x∧l.drop (j+1)=rest:=by
  have hj:j<l.length:=by
    apply Classical.byContradiction
    intro hc
    rw[List.drop_eq_nil_of_le (by omega)]at h
    cases h
  rw[List.drop_eq_getElem_cons hj]at h
  injection h with h1 h2
  exact⟨hj,h1,h2⟩
theorem best_loop(t:List T1)(a b c:Int)(o:List Int)(d:Bool)(g:List G1)(f q:List Int)(x:Int)(hz:g.length≤1048576)(s:Int):
    ∃r:Int,Ev (fun k=>spec_l18Best.l0 k x s g (g.length:Int) 0) r∧Ev (fun k=>impl_best.l0 k x s (opens g 0) ((opens g 0).length:Int) 0 t a b c o d g f q) r:=by
  have hv:=opens_len g
  have:=down (g:=fun i=>∀(s:Int) (j:Nat),(opens g 0).drop j=opens g i→∃r:Int,Ev (fun k=>spec_l18Best.l0 k x s g (g.length:Int) (i:Int)) r∧Ev (fun k=>impl_best.l0 k x s (opens g 0) ((opens g 0).length:Int) (j:Int) t a b c o d g f q) r) (n:=g.length) (fun i hi hs s j hj=>by
    have hw:wrap64 ((i:Int)+1)=((i+1:Nat):Int):=w64s (by omega)
    by_cases c0:(g[i].f4==0)=true
    · rw[opens_pos hi c0]at hj
      obtain⟨j0,j1,j2⟩:=drop_cons hj
      have hw':wrap64 ((j:Int)+1)=((j+1:Nat):Int):=w64s (by omega)
      have imp:∀(p:Bool) (r:Int),impl_plays.f g[i].f0 g[i].f1 g[i].f2 g[i].f3 g[i].f4 x=some p→Ev (fun k=>if p=true then(impl_best.l0 k x (wrap64 (s+2)) (opens g 0) ((opens g 0).length:Int) ((j+1:Nat):Int) t a b c o d g f q)else(impl_best.l0 k x s (opens g 0) ((opens g 0).length:Int) ((j+1:Nat):Int) t a b c o d g f q)) r→Ev (fun k=>impl_best.l0 k x s (opens g 0) ((opens g 0).length:Int) (j:Int) t a b c o d g f q) r:=by
        intro p r hp hr
        have hrd:rd (opens g 0) (j:Int)=(i:Int):=by rw[rd_nat j0,j1]
        refine Ev.step (fun k=>impl_best.l0.eq_2 ..) (Ev.pos (by omega) (Ev.pos (by omega) (Ev.pos (by omega) ?_)))
        rw[hrd,rdG1 hi,hw']
        exact Ev.pos (by omega) (Ev.pos (by omega) (Ev.bind0 hp hr))
      by_cases c1:g[i].f0=x
      · obtain⟨r,r1,r2⟩:=hs (wrap64 (s+2)) (j+1) j2
        refine⟨r,Ev.step (fun k=>spec_l18Best.l0.eq_2 ..) (Ev.pos (by omega) (Ev.pos (by omega) (Ev.pos (by omega) (Ev.bind0 (a:=true) ?_ (Ev.pos rfl (Ev.pos ?_ ?_)))))),imp true r (by unfold impl_plays.f;rw[if_pos c1]) (Ev.pos rfl r2)⟩
        · rw[rdG1 hi];exact congrArg some c0
        · rw[rdG1 hi];exact c1
        · rw[hw];exact r1
      · by_cases c2:g[i].f1=x
        · obtain⟨r,r1,r2⟩:=hs (wrap64 (s+2)) (j+1) j2
          refine⟨r,Ev.step (fun k=>spec_l18Best.l0.eq_2 ..) (Ev.pos (by omega) (Ev.pos (by omega) (Ev.pos (by omega) (Ev.bind0 (a:=true) ?_ (Ev.pos rfl (Ev.neg ?_ (Ev.pos ?_ ?_))))))),imp true r (by unfold impl_plays.f;rw[if_neg c1,beq_iff_eq.mpr c2]) (Ev.pos rfl r2)⟩
          · rw[rdG1 hi];exact congrArg some c0
          · rw[rdG1 hi];exact c1
          · rw[rdG1 hi];exact c2
          · rw[hw];exact r1
        · obtain⟨r,r1,r2⟩:=hs s (j+1) j2
          refine⟨r,Ev.step (fun k=>spec_l18Best.l0.eq_2 ..) (Ev.pos (by omega) (Ev.pos (by omega) (Ev.pos (by omega) (Ev.bind0 (a:=true) ?_ (Ev.pos rfl (Ev.neg ?_ (Ev.neg ?_ ?_))))))),imp false r (by unfold impl_plays.f;rw[if_neg c1,beq_eq_false_iff_ne.mpr c2]) (Ev.neg (by simp) r2)⟩
          · rw[rdG1 hi];exact congrArg some c0
          · rw[rdG1 hi];exact c1
          · rw[rdG1 hi];exact c2
          · rw[hw];exact r1
    · rw[opens_neg hi c0]at hj
      obtain⟨r,r1,r2⟩:=hs s j hj
      refine⟨r,Ev.step (fun k=>spec_l18Best.l0.eq_2 ..) (Ev.pos (by omega) (Ev.pos (by omega) (Ev.pos (by omega) (Ev.bind0 (a:=false) ?_ (Ev.neg (by simp) ?_))))),r2⟩
      · rw[rdG1 hi];exact congrArg some (Bool.eq_false_iff.2 c0)
      · rw[hw];exact r1) (fun s j hj=>by
    rw[opens_end]at hj
    have hj':(opens g 0).length≤j:=List.drop_eq_nil_iff.1 hj
    exact⟨s,Ev.step (fun k=>spec_l18Best.l0.eq_2 ..) (Ev.neg (by omega) (Ev.now _)),Ev.step (fun k=>impl_best.l0.eq_2 ..) (Ev.neg (by omega) (Ev.now _))⟩) g.length 0 (by omega)
  exact this s 0 rfl
theorem best_same(t:List T1)(a b c:Int)(o:List Int)(d:Bool)(g:List G1)(f q:List Int)(x:Int)(hn:t.length≤8)(hq:q.length=t.length)(hz:g.length≤1048576)(hg:∀i (h:i<g.length),gOk t.length g[i])(x0:0≤x)(x1:x<(t.length:Int)):
    ∃r:Int,Ev (fun k=>spec_l18Best.f k t a b c o d g f q x) r∧Ev (fun k=>impl_best.f k t a b c o d g f q x) r:=by
  obtain⟨P,p0,p1,p2⟩:=pts_same t a b c o d g f q hn hq hz hg
  obtain⟨r,r1,r2⟩:=best_loop t a b c o d g f q x hz (rd P x)
  exact⟨r,Ev.bind p1 (Ev.pos x0 (Ev.pos (by omega) r1)),Ev.bind p2 (Ev.pos x0 (Ev.pos (by omega) (Ev.bind (impl_opens g hz) r2)))⟩
theorem book_facts{t:List T1}{a b c:Int}{o:List Int}{g:List G1}{f q:List Int}(h:bookB t a b c o g f q=true):
    2≤t.length∧t.length≤8∧q.length=t.length∧g.length≤60∧∀i (h:i<g.length),gOk t.length g[i]:=by
  unfold bookB at h
  simp only[Bool.and_eq_true,decide_eq_true_eq]at h
  obtain⟨hf,hr,hs,⟨_,_⟩,hq,_⟩:=h
  unfold fieldB at hf
  simp only[Bool.and_eq_true,decide_eq_true_eq]at hf
  unfold seasonB at hs
  simp only[Bool.and_eq_true,decide_eq_true_eq,List.all_eq_true,List.mem_range]at hs
  refine⟨by omega,by omega,by omega,by omega,fun i hi=>?_⟩
  have h1:=hs.2 i hi
  unfold gslotB at h1
  rw[getDG hi]at h1
  simp only[Bool.and_eq_true]at h1
  have h2:=h1.1
  unfold gameB at h2
  simp only[Bool.and_eq_true,decide_eq_true_eq]at h2
  obtain⟨_,⟨g0,g1⟩,⟨g2,g3⟩,g4,_⟩:=h2
  exact⟨g0,by omega,g2,by omega,g4⟩
noncomputable def leadB (t:List T1) (a b c:Int) (o:List Int) (g:List G1) (f q:List Int) (x:Int):Bool:=bookB t a b c o g f q&&((rulesB a b c o&&(decide (a=2)&&(decide (b=1)&&(c==0))))&&decide (0≤x∧x≤wrap64 ((t.length:Int)-1)))
theorem simple_ev{g:Nat→Option Bool}{a b c:Int}{o:List Int}(h:Ev g (rulesB a b c o)):Ev (fun k=>(g k).bind fun t238=>(if t238=true then(if a=2 then(if b=1 then(some (c==0))else(some false))else(some false))else(some false))) (rulesB a b c o&&(decide (a=2)&&(decide (b=1)&&(c==0)))):=by
  refine Ev.bind h ?_
  cases rulesB a b c o with
  |false=>exact Ev.neg (by simp) (Ev.now _)
  |true=>
    refine Ev.pos rfl ?_
    by_cases c1:a=2
    · refine Ev.pos c1 ?_
      by_cases c2:b=1
      · refine Ev.pos c2 ?_
        rw[decide_eq_true c1,decide_eq_true c2];exact Ev.now _
      · rw[decide_eq_false c2];simp only[Bool.false_and,Bool.and_false];exact Ev.neg c2 (Ev.now _)
    · rw[decide_eq_false c1];simp only[Bool.false_and,Bool.and_false];exact Ev.neg c1 (Ev.now _)
theorem lead_spec(t:List T1)(a b c:Int)(o:List Int)(d:Bool)(g:List G1)(f q:List Int)(x:Int)(z1:t.length≤1048576)(zs:∀y∈t,y.f0.size≤1048576)(z2:o.length≤1048576)(z3:g.length≤1048576)(z4:f.length≤1048576)(z5:q.length≤1048576):
    Ev (fun k=>spec_l18Ok.f k t a b c o d g f q x) (leadB t a b c o g f q x):=by
  refine Ev.bind (spec_book t a b c o d g f q z1 zs z2 z3 z4 z5) ?_
  unfold leadB
  cases bookB t a b c o g f q with
  |false=>exact Ev.neg (by simp) (Ev.now _)
  |true=>
    refine Ev.pos rfl (Ev.bind (simple_ev (spec_rules a b c o d (by omega))) ?_)
    rw[Bool.true_and]
    generalize (rulesB a b c o&&(decide (a=2)&&(decide (b=1)&&(c==0))))=p
    cases p with
    |false=>exact Ev.neg (by simp) (Ev.now _)
    |true=>rw[Bool.true_and];exact Ev.pos rfl (Ev.bind0 (spec_in _ _ _) (Ev.now _))
theorem lead_impl(t:List T1)(a b c:Int)(o:List Int)(d:Bool)(g:List G1)(f q:List Int)(x:Int)(z1:t.length≤1048576)(zs:∀y∈t,y.f0.size≤1048576)(z2:o.length≤1048576)(z3:g.length≤1048576)(z4:f.length≤1048576)(z5:q.length≤1048576):
    Ev (fun k=>impl_isLead.f k t a b c o d g f q x) (leadB t a b c o g f q x):=by
  refine Ev.bind (impl_book t a b c o d g f q z1 zs z2 z3 z4 z5) ?_
  unfold leadB
  cases bookB t a b c o g f q with
  |false=>exact Ev.neg (by simp) (Ev.now _)
  |true=>
    refine Ev.pos rfl (Ev.bind (simple_ev (impl_rules a b c o d (by omega))) ?_)
    rw[Bool.true_and]
    generalize (rulesB a b c o&&(decide (a=2)&&(decide (b=1)&&(c==0))))=p
    cases p with
    |false=>exact Ev.neg (by simp) (Ev.now _)
    |true=>rw[Bool.true_and];exact Ev.pos rfl (Ev.bind0 (by unfold impl_isTeam.f;rw[impl_in];rfl) (Ev.now _))
theorem lead_facts{t:List T1}{a b c:Int}{o:List Int}{g:List G1}{f q:List Int}{x:Int}(h:leadB t a b c o g f q x=true):
    bookB t a b c o g f q=true∧0≤x∧x<(t.length:Int):=by
  unfold leadB at h
  simp only[Bool.and_eq_true,decide_eq_true_eq]at h
  obtain⟨hb,_,h0,h1⟩:=h
  have hf:=book_facts hb
  rw[w64 (by omega) (by omega)]at h1
  exact⟨hb,h0,by omega⟩
end Go.Proofs.YtgalpgakdcfilaaGreat.L
