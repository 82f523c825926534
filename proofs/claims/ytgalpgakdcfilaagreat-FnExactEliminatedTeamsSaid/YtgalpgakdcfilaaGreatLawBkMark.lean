/- Books as the laws mark them. No condition beyond sizes. -/
import Derived.Test.YtgalpgakdcfilaaGreatLawBook
import Derived.Test.YtgalpgakdcfilaaGreatLawMark0
import Derived.Test.YtgalpgakdcfilaaGreatL9
import Derived.Test.YtgalpgakdcfilaaGreatL11
namespace Go.Proofs.YtgalpgakdcfilaaGreat.L
set_option linter.unusedVariables false
set_option linter.unusedSimpArgs false
open Go.RowKit Go.Proofs.YtgalpgakdcfilaaGreatW.PrintWords Go.Proofs.YtgalpgakdcfilaaGreat.PK
theorem text_loop:∀(d:Nat) (q:Int) (s:ByteArray),0≤q→q<10^d→s.size+d≤1000→d≤18→∃r,Ev (fun k=>laws_markText.l0 k q s) r
  |0,q,s,h0,h1,h2,_=>by
    have:q<1:=by simpa using h1
    exact⟨_,Ev.step (fun k=>laws_markText.l0.eq_2 ..) (Ev.neg (by omega) (Ev.pos (by omega) (Ev.now _)))⟩
  |d+1,q,s,h0,h1,h2,h3=>by
    by_cases c:q>0
    · have hp:(10:Int)^(d+1)=10*10^d:=by rw[Int.pow_succ,Int.mul_comm]
      rw[hp]at h1
      have hs:∀c:Int,(strOfNums [c]).size=1:=fun c=>rfl
      have hd:(10:Int)^d≤10^18:=by exact_mod_cast Nat.pow_le_pow_right (n:=10) (by omega) (show d≤18 by omega)
      have hb:(10:Int)^18=1000000000000000000:=by decide
      have e:wrap64 (Int.tdiv q 10)=q/10:=by
        rw[Int.tdiv_eq_ediv_of_nonneg h0,w64 (by omega) (by omega)]
      obtain⟨r,hr⟩:=text_loop d (q/10) (strOfNums [(wrap64 (48+(Int.tmod q 10)))%256]++s) (by omega) (by omega) (by rw[ByteArray.size_append,hs];omega) (by omega)
      refine⟨r,Ev.step (fun k=>laws_markText.l0.eq_2 ..) (Ev.pos c (Ev.bind0 rfl (Ev.pos (by rw[hs];omega) ?_)))⟩
      rw[e];exact hr
    · exact⟨_,Ev.step (fun k=>laws_markText.l0.eq_2 ..) (Ev.neg c (Ev.pos (by omega) (Ev.now _)))⟩
theorem markText_some(q:Int)(h1:q≤1000000000):∃s,Ev (fun k=>laws_markText.f k q) s:=by
  unfold laws_markText.f
  by_cases c:q≤0
  · exact⟨_,Ev.pos c (Ev.now _)⟩
  · obtain⟨r,hr⟩:=text_loop 18 q ⟨#[]⟩ (by omega) (Int.lt_of_le_of_lt h1 (by decide)) (by decide) (by omega)
    exact⟨r,Ev.neg c hr⟩
theorem ex_step{β:Type}{P:β→Prop}{g g':Nat→Option β}(e:∀k,g (k+1)=g' k)(h:∃r,Ev g' r∧P r):∃r,Ev g r∧P r:=by
  obtain⟨r,h1,h2⟩:=h
  exact⟨r,Ev.step e h1,h2⟩
theorem ex_pos{β:Type}{P:β→Prop}{c:Prop}[Decidable c]{f g:Nat→Option β}(hc:c)(h:∃r,Ev f r∧P r):∃r,Ev (fun n=>if c then f n else g n) r∧P r:=by
  obtain⟨r,h1,h2⟩:=h
  exact⟨r,Ev.pos hc h1,h2⟩
theorem ex_bind{α β:Type}{P:β→Prop}{a0:α}{f:Nat→α→Option β}(h:∀a,a=a0→∃r,Ev (fun n=>f n a) r∧P r):∃r,Ev (fun n=>(some a0).bind (f n)) r∧P r:=by
  obtain⟨r,h1,h2⟩:=h a0 rfl
  exact⟨r,Ev.bind0 rfl h1,h2⟩
theorem ex_call{α β:Type}{P:β→Prop}{o:Nat→Option α}{a:α}{f:Nat→α→Option β}(ho:Ev o a)(h:∃r,Ev (fun n=>f n a) r∧P r):∃r,Ev (fun n=>(o n).bind (f n)) r∧P r:=by
  obtain⟨r,h1,h2⟩:=h
  exact⟨r,Ev.bind ho h1,h2⟩
theorem markTeamS_some(x:List T1)(q:Int)(hx:x.length≤1048576)(h0:0≤q)(h1:q≤100000000):∃r,Ev (fun k=>laws_markTeamS.f k x q) r∧0≤r.1∧r.1≤q+3*x.length:=by
  have:=down (g:=fun i=>∀(y:List T1) (p:Int),y.length=x.length→0≤p→p≤q+3*i→∃r,Ev (fun k=>laws_markTeamS.l0 k y p (i:Int)) r∧(0≤r.1∧r.1≤q+3*x.length)) (n:=x.length) (fun i hi hn y p hy p0 p1=>by
    obtain⟨s,hs⟩:=markText_some p (by omega)
    have e1:wrap64 (p+1)=p+1:=w64 (by omega) (by omega)
    have e2:wrap64 (p+1+1)=p+1+1:=w64 (by omega) (by omega)
    have e3:wrap64 (p+1+1+1)=p+1+1+1:=w64 (by omega) (by omega)
    refine ex_step (fun k=>laws_markTeamS.l0.eq_2 ..) (ex_pos (by omega) (ex_call hs (ex_pos (by omega) (ex_bind fun y1 g1=>ex_bind fun y2 g2=>?_))))
    rw[w64s (by omega),e1,e2,e3]
    exact hn _ _ (by rw[List.length_set,g2,List.length_set,g1,List.length_set];exact hy) (by omega) (by omega)) (fun y p hy p0 p1=>⟨(p,y),Ev.step (fun k=>laws_markTeamS.l0.eq_2 ..) (Ev.neg (by omega) (Ev.now _)),p0,p1⟩) x.length 0 (by omega) x q rfl h0 (by omega)
  exact this
theorem markGameS_some(x:List G1)(q:Int)(hx:x.length≤1048576)(h0:0≤q)(h1:q≤100000000):∃r,Ev (fun k=>laws_markGameS.f k x q) r∧0≤r.1∧r.1≤q+5*x.length:=by
  have:=down (g:=fun i=>∀(y:List G1) (p:Int),y.length=x.length→0≤p→p≤q+5*i→∃r,Ev (fun k=>laws_markGameS.l0 k y p (i:Int)) r∧(0≤r.1∧r.1≤q+5*x.length)) (n:=x.length) (fun i hi hn y p hy p0 p1=>by
    have e1:wrap64 (p+1)=p+1:=w64 (by omega) (by omega)
    have e2:wrap64 (p+1+1)=p+1+1:=w64 (by omega) (by omega)
    have e3:wrap64 (p+1+1+1)=p+1+1+1:=w64 (by omega) (by omega)
    have e4:wrap64 (p+1+1+1+1)=p+1+1+1+1:=w64 (by omega) (by omega)
    have e5:wrap64 (p+1+1+1+1+1)=p+1+1+1+1+1:=w64 (by omega) (by omega)
    refine ex_step (fun k=>laws_markGameS.l0.eq_2 ..) (ex_pos (by omega) (ex_pos (by omega) (ex_bind fun y1 g1=>ex_bind fun y2 g2=>ex_bind fun y3 g3=>ex_bind fun y4 g4=>?_)))
    rw[w64s (by omega),e1,e2,e3,e4,e5]
    exact hn _ _ (by rw[List.length_set,g4,List.length_set,g3,List.length_set,g2,List.length_set,g1,List.length_set];exact hy) (by omega) (by omega)) (fun y p hy p0 p1=>⟨(p,y),Ev.step (fun k=>laws_markGameS.l0.eq_2 ..) (Ev.neg (by omega) (Ev.now _)),p0,p1⟩) x.length 0 (by omega) x q rfl h0 (by omega)
  exact this
theorem markBook_some(t:List T1)(a b c:Int)(o:List Int)(d:Bool)(g:List G1)(f k:List Int)(q:Int)(h0:0≤q)(h1:q≤20000000)(z1:t.length≤1048576)(z2:o.length≤1048576)(z3:g.length≤1048576)(z4:f.length≤1048576)(z5:k.length≤1048576):
    ∃r,Ev (fun m=>laws_markBook.f m t a b c o d g f k q) r∧0≤r.1∧r.1≤q+11534336:=by
  obtain⟨r1,e1,p1,p2⟩:=markTeamS_some t q z1 h0 (by omega)
  have e2:=markIntS_marks o r1.1 p1 (by omega)
  obtain⟨r3,e3,p3,p4⟩:=markGameS_some g (r1.1+o.length) z3 (by omega) (by omega)
  have e4:=markIntS_marks f r3.1 p3 (by omega)
  have e5:=markIntS_marks k (r3.1+f.length) (by omega) (by omega)
  refine⟨_,Ev.bind e1 (Ev.bind (a:=(r1.1+(o.length:Int),marks r1.1 o.length)) (Ev.bind e2 (Ev.now _)) (Ev.bind e3 (Ev.bind e4 (Ev.bind e5 (Ev.now _))))),?_,?_⟩
  · show 0≤r3.1+(f.length:Int)+(k.length:Int);omega
  · show r3.1+(f.length:Int)+(k.length:Int)≤q+11534336;omega
end Go.Proofs.YtgalpgakdcfilaaGreat.L
