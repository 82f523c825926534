/- Books as the laws hand them over: measured, copied, compared. No condition beyond sizes. -/
import Derived.Test.YtgalpgakdcfilaaGreatLawInt
import Derived.Test.YtgalpgakdcfilaaGreatLawSz
import Derived.Test.YtgalpgakdcfilaaGreatL1
import Derived.Test.YtgalpgakdcfilaaGreatL5
import Derived.Test.YtgalpgakdcfilaaGreatL9
namespace Go.Proofs.YtgalpgakdcfilaaGreat.L
set_option linter.unusedVariables false
set_option linter.unusedSimpArgs false
open Go.RowKit Go.Proofs.YtgalpgakdcfilaaGreatW.PrintWords Go.Proofs.YtgalpgakdcfilaaGreat.PK
abbrev T0:=S82
abbrev T1:=S83
abbrev G0:=S86
abbrev G1:=S79
def tv(p:T0):T1:=⟨p.f0,p.f1,p.f2⟩
def gv(p:G0):G1:=⟨p.f0,p.f1,p.f2,p.f3,p.f4⟩
theorem rdT0{x:List T0}{i:Nat}(h:i<x.length):rd_T82 x (i:Int)=x[i]:=by simp [rd_T82,List.getD_eq_getElem?_getD,h]
theorem rdT1{x:List T1}{i:Nat}(h:i<x.length):rd_T83 x (i:Int)=x[i]:=by simp [rd_T83,List.getD_eq_getElem?_getD,h]
theorem rdG0{x:List G0}{i:Nat}(h:i<x.length):rd_T86 x (i:Int)=x[i]:=by simp [rd_T86,List.getD_eq_getElem?_getD,h]
theorem rdG1{x:List G1}{i:Nat}(h:i<x.length):rd_T79 x (i:Int)=x[i]:=by simp [rd_T79,List.getD_eq_getElem?_getD,h]
theorem toTeamS_same(l:List T0)(hb:l.length≤1048576):Ev (fun k=>laws_toTeamS.f k l) (l.map tv):=by
  have:=Ev.iter (fun i k=>laws_toTeamS.l0 k l ((l.map tv).take i++(List.replicate l.length z83).drop i) (i:Int)) l.length (l.map tv) (fun i hi h=>by
    refine Ev.step (fun k=>laws_toTeamS.l0.eq_2 ..) (Ev.pos (by omega) (Ev.pos (by omega) (Ev.bind0 rfl (Ev.pos (by simp;omega) ?_))))
    rw[w64s (by omega),Int.toNat_natCast,set_step _ _ _ _ (by simp;omega) (by simpa using hi),rdT0 hi]
    rw[take_snoc (l.map tv) i (by simpa using hi)]at h
    simpa [tv] using h) (by
    refine Ev.step (fun k=>laws_toTeamS.l0.eq_2 ..) (Ev.neg (by omega) ?_)
    simp only[List.take_of_length_le (show(l.map tv).length≤l.length by simp),List.drop_eq_nil_of_le (show(List.replicate l.length z83).length≤l.length by simp),List.append_nil]
    exact Ev.now _)
  simp only[laws_toTeamS.f]
  refine Ev.pos (by omega) (Ev.pos (by omega) ?_)
  simpa using this
theorem toGameS_same(l:List G0)(hb:l.length≤1048576):Ev (fun k=>laws_toGameS.f k l) (l.map gv):=by
  have:=Ev.iter (fun i k=>laws_toGameS.l0 k l ((l.map gv).take i++(List.replicate l.length z79).drop i) (i:Int)) l.length (l.map gv) (fun i hi h=>by
    refine Ev.step (fun k=>laws_toGameS.l0.eq_2 ..) (Ev.pos (by omega) (Ev.pos (by omega) (Ev.bind0 rfl (Ev.pos (by simp;omega) ?_))))
    rw[w64s (by omega),Int.toNat_natCast,set_step _ _ _ _ (by simp;omega) (by simpa using hi),rdG0 hi]
    rw[take_snoc (l.map gv) i (by simpa using hi)]at h
    simpa [gv] using h) (by
    refine Ev.step (fun k=>laws_toGameS.l0.eq_2 ..) (Ev.neg (by omega) ?_)
    simp only[List.take_of_length_le (show(l.map gv).length≤l.length by simp),List.drop_eq_nil_of_le (show(List.replicate l.length z79).length≤l.length by simp),List.append_nil]
    exact Ev.now _)
  simp only[laws_toGameS.f]
  refine Ev.pos (by omega) (Ev.pos (by omega) ?_)
  simpa using this
theorem eqTeamS_self(x:List T1)(hb:x.length≤1048576):Ev (fun k=>laws_eqTeamS.f k x x) true:=by
  have:=Ev.iter (fun i k=>laws_eqTeamS.l0 k x x (i:Int)) x.length true (fun i hi h=>by
    refine Ev.step (fun k=>laws_eqTeamS.l0.eq_2 ..) (Ev.pos (by omega) (Ev.pos (by omega) (Ev.pos (by omega) (Ev.bind0 (a:=true) (by simp [laws_eqTeam.f]) (Ev.pos rfl ?_)))))
    rw[w64s (by omega)]
    exact h) (Ev.step (fun k=>laws_eqTeamS.l0.eq_2 ..) (Ev.neg (by omega) (Ev.now _)))
  exact Ev.pos rfl this
theorem eqGameS_self(x:List G1)(hb:x.length≤1048576):Ev (fun k=>laws_eqGameS.f k x x) true:=by
  have:=Ev.iter (fun i k=>laws_eqGameS.l0 k x x (i:Int)) x.length true (fun i hi h=>by
    refine Ev.step (fun k=>laws_eqGameS.l0.eq_2 ..) (Ev.pos (by omega) (Ev.pos (by omega) (Ev.pos (by omega) (Ev.bind0 (a:=true) (by simp [laws_eqGame.f]) (Ev.pos rfl ?_)))))
    rw[w64s (by omega)]
    exact h) (Ev.step (fun k=>laws_eqGameS.l0.eq_2 ..) (Ev.neg (by omega) (Ev.now _)))
  exact Ev.pos rfl this
theorem szTeamS_tells(w:List T0)(n:Int)(h0:0≤n)(h1:n≤1048576)(hl:w.length≤maxLen)(hs:∀y∈w,y.f0.size≤maxLen):∃r,Ev (fun k=>laws_szTeamS.f k w n) r∧(r<0∨(0≤r∧r≤n∧(w.length:Int)≤n∧∀y∈w,(y.f0.size:Int)≤n)):=by
  have hm:=hl
  unfold maxLen at hm
  simp only[laws_szTeamS.f]
  rw[w64 (by omega) (by omega)]
  by_cases c:n-(w.length:Int)<0
  · exact⟨-1,Ev.pos c (Ev.now _),.inl (by omega)⟩
  have key:=down (g:=fun i=>∀a:Int,0≤a→a≤n→∃r,Ev (fun k=>laws_szTeamS.l0 k w a (i:Int)) r∧(r<0∨(0≤r∧r≤n∧∀y∈w.drop i,(y.f0.size:Int)≤n))) (n:=w.length) (fun i hi' h a h2 h3=>by
    have hz:=hs _ (List.getElem_mem hi')
    unfold maxLen at hz
    by_cases cr:a-(w[i].f0.size:Int)<0
    · refine⟨-1,Ev.step (fun k=>laws_szTeamS.l0.eq_2 ..) (Ev.pos (by omega) (Ev.pos (by omega) ?_)),.inl (by omega)⟩
      rw[rdT0 hi']
      refine Ev.bind0 (a:= -1) ?_ (Ev.pos (by omega) (Ev.now _))
      unfold laws_szTeam.f
      rw[w64 (by omega) (by omega),if_pos cr]
    · obtain⟨s,hs',hd⟩:=h (a-(w[i].f0.size:Int)) (by omega) (by omega)
      refine⟨s,Ev.step (fun k=>laws_szTeamS.l0.eq_2 ..) (Ev.pos (by omega) (Ev.pos (by omega) ?_)),?_⟩
      · rw[rdT0 hi',w64s (by omega)]
        refine Ev.bind0 (a:=a-(w[i].f0.size:Int)) ?_ (Ev.neg (by omega) hs')
        unfold laws_szTeam.f
        rw[w64 (by omega) (by omega),if_neg cr]
      · rcases hd with hd|⟨hd1,hd2,hd3⟩
        · exact .inl hd
        · refine .inr ⟨hd1,hd2,fun y hy=>?_⟩
          rw[List.drop_eq_getElem_cons hi']at hy
          rcases List.mem_cons.1 hy with rfl|hy
          · omega
          · exact hd3 y hy) (fun a h2 h3=>⟨a,Ev.step (fun k=>laws_szTeamS.l0.eq_2 ..) (Ev.neg (by omega) (Ev.now _)),.inr ⟨h2,h3,by simp⟩⟩) w.length 0 (by omega)
  obtain⟨r,h2,h3⟩:=key (n-(w.length:Int)) (by omega) (by omega)
  refine⟨r,Ev.neg c h2,?_⟩
  rcases h3 with h3|⟨h4,h5,h6⟩
  · exact .inl h3
  · exact .inr ⟨h4,h5,by omega,by simpa using h6⟩
theorem szRules_tells(a b c:Int)(l:List Int)(d:Bool)(n:Int)(h0:0≤n)(h1:n≤1048576)(hl:l.length≤maxLen):∃r,laws_szRules.f a b c l d n=some r∧(r<0∨(0≤r∧r≤n∧(l.length:Int)≤n)):=by
  obtain⟨r,hr⟩:=szIntS_some l n
  unfold laws_szRules.f
  rw[hr,Option.bind_some]
  rcases szIntS_le l n r h0 (by omega) hl hr with h|⟨h,h'⟩
  · rw[if_pos (by omega)];exact⟨_,rfl,by omega⟩
  · rw[if_neg (by omega)];exact⟨_,rfl,by omega⟩
theorem szGameS_tells(w:List G0)(n:Int)(h0:0≤n)(h1:n≤1048576)(hl:w.length≤maxLen):∃r,laws_szGameS.f w n=some r∧(r<0∨(0≤r∧r≤n∧(w.length:Int)≤n)):=by
  unfold maxLen at hl
  unfold laws_szGameS.f
  rw[w64 (by omega) (by omega)]
  by_cases c:n-(w.length:Int)<0
  · rw[if_pos c];exact⟨_,rfl,.inl (by omega)⟩
  · rw[if_neg c];exact⟨_,rfl,.inr (by omega)⟩
theorem szIntS_tells(l:List Int)(n:Int)(h0:0≤n)(h1:n≤1048576)(hl:l.length≤maxLen):∃r,laws_szIntS.f l n=some r∧(r<0∨(0≤r∧r≤n∧(l.length:Int)≤n)):=by
  obtain⟨r,hr⟩:=szIntS_some l n
  refine⟨r,hr,?_⟩
  rcases szIntS_le l n r h0 (by omega) hl hr with h|⟨h,h'⟩
  · exact .inl (by omega)
  · exact .inr (by omega)
def Small(n:Int)(t:List T0)(o:List Int)(g:List G0)(f k:List Int):Prop:=(t.length:Int)≤n∧(∀y∈t,(y.f0.size:Int)≤n)∧(o.length:Int)≤n∧(g.length:Int)≤n∧(f.length:Int)≤n∧(k.length:Int)≤n
theorem szBook_tells(t:List T0)(a b c:Int)(o:List Int)(d:Bool)(g:List G0)(f k:List Int)(n:Int)(h0:0≤n)(h1:n≤1048576)(ht:t.length≤maxLen)(hs:∀y∈t,y.f0.size≤maxLen)(ho:o.length≤maxLen)(hg:g.length≤maxLen)(hf:f.length≤maxLen)(hk:k.length≤maxLen):
    ∃r,Ev (fun q=>laws_szBook.f q t a b c o d g f k n) r∧(r<0∨(0≤r∧r≤n∧Small n t o g f k)):=by
  unfold laws_szBook.f
  obtain⟨r1,e1,p1⟩:=szTeamS_tells t n h0 h1 ht hs
  by_cases c1:r1<0
  · exact⟨-1,Ev.bind e1 (Ev.pos c1 (Ev.now _)),.inl (by omega)⟩
  obtain⟨q1,q2,q3,q4⟩:=p1.resolve_left c1
  obtain⟨r2,e2,p2⟩:=szRules_tells a b c o d r1 q1 (by omega) ho
  by_cases c2:r2<0
  · exact⟨-1,Ev.bind e1 (Ev.neg c1 (Ev.bind0 e2 (Ev.pos c2 (Ev.now _)))),.inl (by omega)⟩
  have p2:=p2.resolve_left c2
  obtain⟨r3,e3,p3⟩:=szGameS_tells g r2 (by omega) (by omega) hg
  by_cases c3:r3<0
  · exact⟨-1,Ev.bind e1 (Ev.neg c1 (Ev.bind0 e2 (Ev.neg c2 (Ev.bind0 e3 (Ev.pos c3 (Ev.now _)))))),.inl (by omega)⟩
  have p3:=p3.resolve_left c3
  obtain⟨r4,e4,p4⟩:=szIntS_tells f r3 (by omega) (by omega) hf
  by_cases c4:r4<0
  · exact⟨-1,Ev.bind e1 (Ev.neg c1 (Ev.bind0 e2 (Ev.neg c2 (Ev.bind0 e3 (Ev.neg c3 (Ev.bind0 e4 (Ev.pos c4 (Ev.now _)))))))),.inl (by omega)⟩
  have p4:=p4.resolve_left c4
  obtain⟨r5,e5,p5⟩:=szIntS_tells k r4 (by omega) (by omega) hk
  by_cases c5:r5<0
  · exact⟨-1,Ev.bind e1 (Ev.neg c1 (Ev.bind0 e2 (Ev.neg c2 (Ev.bind0 e3 (Ev.neg c3 (Ev.bind0 e4 (Ev.neg c4 (Ev.bind0 e5 (Ev.pos c5 (Ev.now _)))))))))),.inl (by omega)⟩
  have p5:=p5.resolve_left c5
  exact⟨r5,Ev.bind e1 (Ev.neg c1 (Ev.bind0 e2 (Ev.neg c2 (Ev.bind0 e3 (Ev.neg c3 (Ev.bind0 e4 (Ev.neg c4 (Ev.bind0 e5 (Ev.neg c5 (Ev.now _)))))))))),.inr ⟨by omega,by omega,by omega,q4,by omega,by omega,by omega,by omega⟩⟩
theorem toRules_same(a b c:Int)(l:List Int)(d:Bool)(hb:l.length≤1048576):Ev (fun k=>laws_toRules.f k a b c l d) (a,b,c,l,d):=Ev.bind (toIntS_same l (by omega)) (Ev.now _)
theorem eqRules_self(a b c:Int)(l:List Int)(d:Bool)(hb:l.length≤1048576):Ev (fun k=>laws_eqRules.f k a b c l d a b c l d) true:=by
  unfold laws_eqRules.f
  exact Ev.pos rfl (Ev.pos rfl (Ev.pos rfl (Ev.bind (eqIntS_self l (by omega)) (Ev.pos rfl (Ev.neg bnot_ne_self (Ev.now _))))))
theorem toBook_same(t:List T0)(a b c:Int)(o:List Int)(d:Bool)(g:List G0)(f k:List Int)(h:Small 1048576 t o g f k):Ev (fun q=>laws_toBook.f q t a b c o d g f k) (t.map tv,a,b,c,o,d,g.map gv,f,k):=by
  obtain⟨h1,_,h2,h3,h4,h5⟩:=h
  unfold laws_toBook.f
  exact Ev.bind (toTeamS_same t (by omega)) (Ev.bind (toRules_same a b c o d (by omega)) (Ev.bind (toGameS_same g (by omega)) (Ev.bind (toIntS_same f (by omega)) (Ev.bind (toIntS_same k (by omega)) (Ev.now _)))))
theorem eqBook_self(t:List T1)(a b c:Int)(o:List Int)(d:Bool)(g:List G1)(f k:List Int)(h1:t.length≤1048576)(h2:o.length≤1048576)(h3:g.length≤1048576)(h4:f.length≤1048576)(h5:k.length≤1048576):Ev (fun q=>laws_eqBook.f q t a b c o d g f k t a b c o d g f k) true:=by
  unfold laws_eqBook.f
  exact Ev.bind (eqTeamS_self t h1) (Ev.pos rfl (Ev.bind (eqRules_self a b c o d h2) (Ev.pos rfl (Ev.bind (eqGameS_self g h3) (Ev.pos rfl (Ev.bind (eqIntS_self f (by omega)) (Ev.pos rfl (Ev.bind (eqIntS_self k (by omega)) (Ev.pos rfl (Ev.now _))))))))))
end Go.Proofs.YtgalpgakdcfilaaGreat.L
