/- Breadth first search: the reference's rounds. Conditions: a valid net, flows for each pipe. -/
import Derived.Test.YtgalpgakdcfilaaGreatFlowB0
import Derived.Test.YtgalpgakdcfilaaGreatL30
namespace Go.Proofs.YtgalpgakdcfilaaGreat.L
set_option linter.unusedVariables false
set_option linter.unusedSimpArgs false
open Go.RowKit Go.Proofs.YtgalpgakdcfilaaGreatW.PrintWords Go.Proofs.YtgalpgakdcfilaaGreat.PK
theorem seen_see(s:BS)(nd:Nat)(i:Int)(b:Bool):(s.1.map (·.f2)).set nd true=(s.1.set nd (⟨i,b,true⟩:HP)).map (·.f2):=by
  rw[List.map_set]
theorem spec_half1{n q:Nat}{s:BS}(hs:Bs n q s)(hq:q≤40)(hn:n≤40)(done:List Int)(hd:done.length+q≤41)(f:List Int)(v x11:Int)(i:Nat)(hi:i<f.length)(h120:i≤120)(w:List P1)(len:Int)(p:P1)(h0:0≤p.f0)(h1:p.f0<n)(r:List Int×List Bool)(nn:Int)
    (h:Ev (fun k=>spec_l17Reach.l1 k f ((half1 v s p (rd f (i:Int)) (i:Int)).1.map enc) ((half1 v s p (rd f (i:Int)) (i:Int)).1.map (·.f2)) (done++(half1 v s p (rd f (i:Int)) (i:Int)).2) x11 v w len (wrap64 ((i:Int)+1)) nn w) r):
    Ev (fun k=>if p.f1=v then(if 0≤(i:Int)then(if(i:Int)<(f.length:Int)then(if(rd f (i:Int))>0 then(if 0≤p.f0 then(if p.f0<(n:Int)then(if rdOf false (s.1.map (·.f2)) p.f0=true then(spec_l17Reach.l1 k f (s.1.map enc) (s.1.map (·.f2)) (done++s.2) x11 v w len (wrap64 ((i:Int)+1)) nn w)else(if p.f0<(n:Int)then(if(done++s.2).length<17592186044416 then(spec_l17Reach.l1 k f ((s.1.map enc).set p.f0.toNat (wrap64 ((wrap64 (-(i:Int)))-1))) ((s.1.map (·.f2)).set p.f0.toNat true) ((done++s.2)++[p.f0]) x11 v w len (wrap64 ((i:Int)+1)) nn w)else(none))else(none)))else(none))else(none))else(spec_l17Reach.l1 k f (s.1.map enc) (s.1.map (·.f2)) (done++s.2) x11 v w len (wrap64 ((i:Int)+1)) nn w))else(none))else(none))else(spec_l17Reach.l1 k f (s.1.map enc) (s.1.map (·.f2)) (done++s.2) x11 v w len (wrap64 ((i:Int)+1)) nn w)) r:=by
  have hl:=hs.1
  have hl2:=hs.2
  obtain⟨j,hj⟩:∃j:Nat,p.f0=j:=⟨p.f0.toNat,by omega⟩
  unfold half1 at h
  by_cases c:p.f1=v
  · refine Ev.pos c (Ev.pos (by omega) (Ev.pos (by omega) ?_))
    by_cases c2:0<rd f (i:Int)
    · rw[if_pos ⟨c,c2⟩]at h
      refine Ev.pos c2 (Ev.pos h0 (Ev.pos h1 ?_))
      unfold see at h
      rw[hj]at h⊢
      by_cases c3:(rd_T103 s.1 (j:Int)).f2=true
      · rw[if_pos c3]at h
        exact Ev.pos (by rw[rd_seen _ _ (by omega)];exact c3) h
      · rw[if_neg c3]at h
        refine Ev.neg (by rw[rd_seen _ _ (by omega)];exact c3) (Ev.pos (by omega) (Ev.pos (by simp;omega) ?_))
        rw[Int.toNat_natCast]at h⊢
        have e1:=map_see s j i true h120
        simp only[if_true]at e1
        rw[e1,seen_see s j (i:Int) true,List.append_assoc]
        exact h
    · rw[if_neg (fun e=>c2 e.2)]at h
      exact Ev.neg c2 h
  · rw[if_neg (fun e=>c e.1)]at h
    exact Ev.neg c h
theorem spec_pipe{n q:Nat}{w:List P1}(hw:Ends n w){s:BS}(hs:Bs n q s)(hq:q≤40)(done:List Int)(hd:done.length+q≤41)(f:List Int)(hf:f.length=w.length)(v x11:Int)(i:Nat)(hi:i<w.length)(r:List Int×List Bool)(nn:Int)
    (h:Ev (fun k=>spec_l17Reach.l1 k f ((pst v s w[i] (rd f (i:Int)) (i:Int)).1.map enc) ((pst v s w[i] (rd f (i:Int)) (i:Int)).1.map (·.f2)) (done++(pst v s w[i] (rd f (i:Int)) (i:Int)).2) x11 v w (w.length:Int) ((i+1:Nat):Int) nn w) r):
    Ev (fun k=>spec_l17Reach.l1 k f (s.1.map enc) (s.1.map (·.f2)) (done++s.2) x11 v w (w.length:Int) (i:Int) nn w) r:=by
  have hl:=hs.1
  have hl2:=hs.2
  have hn:=hw.1
  have hwl:=hw.2.1
  have he:=hw.at hi
  rw[←w64s (by omega)]at h
  refine Ev.step (fun k=>spec_l17Reach.l1.eq_2 ..) (Ev.pos (by omega) (Ev.pos (by omega) (Ev.pos (by omega) ?_)))
  rw[rd1_nat hi]
  generalize w[i]=p at h he⊢
  have hfalse:half0 v s p (rd f (i:Int)) (i:Int)=s→Ev (fun k=>spec_l17Reach.j2 k f (s.1.map enc) (s.1.map (·.f2)) (done++s.2) x11 v (i:Int) w (w.length:Int) (i:Int) false nn w p.f0 p.f1 p.f2) r:=by
    intro e
    unfold pst at h
    rw[e]at h
    refine Ev.step (fun k=>spec_l17Reach.j2.eq_2 ..) (Ev.neg (by simp) ?_)
    simp only[List.length_map,hl]
    exact spec_half1 hs hq hn done hd f v x11 i (by omega) (by omega) w _ p he.1.1 he.1.2 r nn h
  by_cases c:p.f0=v
  · refine Ev.pos c (Ev.pos (by omega) ?_)
    by_cases c2:rd f (i:Int)<p.f2
    · refine Ev.pos c2 (Ev.pos he.2.1 (Ev.pos (by simp;omega) ?_))
      obtain⟨j,hj⟩:∃j:Nat,p.f1=j:=⟨p.f1.toNat,by omega⟩
      have hjl:j<s.1.length:=by omega
      rw[show rdOf false (s.1.map (·.f2)) p.f1=(rd_T103 s.1 (j:Int)).f2 by rw[hj,rd_seen _ _ hjl]]
      by_cases c3:(rd_T103 s.1 (j:Int)).f2=true
      · rw[c3]
        exact hfalse (by unfold half0 see;rw[if_pos ⟨c,c2⟩,hj,if_pos c3])
      · have e0:half0 v s p (rd f (i:Int)) (i:Int)=(s.1.set j ⟨(i:Int),false,true⟩,s.2++[(j:Int)]):=by
          unfold half0 see;rw[if_pos ⟨c,c2⟩,hj,if_neg c3,Int.toNat_natCast]
        have hs':=hs.half0 he.2.1 he.2.2 v (rd f (i:Int)) (i:Int)
        unfold pst at h
        rw[e0]at h hs'
        rw[show(rd_T103 s.1 (j:Int)).f2=false by simpa using c3]
        refine Ev.step (fun k=>spec_l17Reach.j2.eq_2 ..) (Ev.pos (by simp) (Ev.pos he.2.1 (Ev.pos (by simp;omega) (Ev.bind0 rfl (Ev.pos (by simp;omega) (Ev.bind0 rfl (Ev.pos (by simp;omega) (Ev.bind0 rfl ?_))))))))
        have e1:=map_see s j i false (by omega)
        simp only[Bool.false_eq_true,if_false]at e1
        have e2:=hs'.1
        simp only[List.length_map,hl]
        rw[show p.f1.toNat=j by omega,e1,seen_see s j (i:Int) false,show done++s.2++[p.f1]=done++(s.2++[(j:Int)]) by rw[hj,List.append_assoc]]
        exact spec_half1 hs' hq hn done hd f v x11 i (by omega) (by omega) w _ p he.1.1 he.1.2 r nn h
    · exact Ev.neg c2 (hfalse (by unfold half0;rw[if_neg (fun e=>c2 e.2)]))
  · exact Ev.neg c (hfalse (by unfold half0;rw[if_neg (fun e=>c e.1)]))
theorem spec_bfs{n:Nat}{w:List P1}(hw:Ends n w)(f:List Int)(hf:f.length=w.length)(nn:Int):∀(m q:Nat) (s:BS) (done:List Int),q≤m→done.length+q≤40→Bs n q s→Ev (fun k=>spec_l17Reach.l0 k f (s.1.map enc) (s.1.map (·.f2)) (done++s.2) (done.length:Int) nn w) ((bfs w f m s).map enc,(bfs w f m s).map (·.f2))
  |0,q,s,done,hm,_,h=>by
    have h2:=h.2
    refine Ev.step (fun k=>spec_l17Reach.l0.eq_2 ..) (Ev.neg (by simp;omega) (Ev.now _))
  |m+1,q,s,done,hm,hq,h=>by
    have h2:=h.2
    simp only[bfs]
    by_cases c:s.2= []
    · rw[if_pos c]
      refine Ev.step (fun k=>spec_l17Reach.l0.eq_2 ..) (Ev.neg (by rw[c];simp) (Ev.now _))
    · rw[if_neg c]
      obtain⟨v,ws,e⟩:=List.exists_cons_of_ne_nil c
      have hlen:s.2.length=ws.length+1:=by rw[e];rfl
      have h':Bs n (q-1) (s.1,ws):=⟨h.1,by show ws.length+unseen s.1=q-1;omega⟩
      have hi:=Bs.inn hw h' f v w.length (by omega)
      have ih:=spec_bfs hw f hf nn m (q-1) _ (done++[v]) (by omega) (by simp;omega) hi
      rw[e,show rd (v::ws) 0=v from rfl,show(v::ws).drop 1=ws from rfl]
      refine Ev.step (fun k=>spec_l17Reach.l0.eq_2 ..) (Ev.pos (by simp;omega) (Ev.pos (by omega) ?_))
      rw[show rd (done++v::ws) (done.length:Int)=v by rw[rd_nat (by simp)];simp,show done++v::ws=(done++[v])++ws by simp]
      refine Ev.iter (fun i k=>spec_l17Reach.l1 k f ((inn w f v (s.1,ws) i).1.map enc) ((inn w f v (s.1,ws) i).1.map (·.f2)) ((done++[v])++(inn w f v (s.1,ws) i).2) (done.length:Int) v w (w.length:Int) (i:Int) nn w) w.length _ (fun i hi' hr=>?_) ?_
      · have hb:=Bs.inn hw h' f v i (by omega)
        simp only[L.inn]at hr
        rw[rd1_nat hi']at hr
        exact spec_pipe hw hb (by omega) (done++[v]) (by simp;omega) f hf v _ i hi' _ nn hr
      · refine Ev.step (fun k=>spec_l17Reach.l1.eq_2 ..) (Ev.neg (by omega) ?_)
        rw[w64s (by omega),show done.length+1=(done++[v]).length by simp]
        exact ih
theorem spec_reach_tells{n:Nat}{w:List P1}(hw:Ends n w)(f:List Int)(hf:f.length=w.length)(a:Nat)(ha:a<n):Ev (fun k=>spec_l17Reach.f k (n:Int) w (a:Int) f) ((reachR n w f a).map enc,(reachR n w f a).map (·.f2)):=by
  have hn:=hw.1
  unfold spec_l17Reach.f
  refine Ev.pos (by omega) (Ev.pos (by omega) (Ev.pos (by omega) (Ev.bind0 rfl (Ev.pos (by omega) (Ev.pos (by simp;omega) ?_)))))
  have:=spec_bfs hw f hf (n:Int) n n (bs0 n a) [] (Nat.le_refl _) (by simpa using hn) (bs0_bs ha)
  rw[Int.toNat_natCast,Int.toNat_natCast]
  have e1:(bs0 n a).1.map enc=List.replicate n 0:=by
    simp only[bs0,List.map_set,List.map_replicate]
    rw[show enc (⟨-1,false,true⟩:HP)=0 by simp [enc],show enc z103=0 by simp [enc,z103],List.set_replicate_self]
  have e2:(bs0 n a).1.map (·.f2)=(List.replicate n false).set a true:=by
    simp only[bs0,List.map_set,List.map_replicate,z103]
  rw[e1,e2]at this
  exact this
end Go.Proofs.YtgalpgakdcfilaaGreat.L
