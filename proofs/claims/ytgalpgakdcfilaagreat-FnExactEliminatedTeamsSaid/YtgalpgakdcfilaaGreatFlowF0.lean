/- The rounds of the greatest flow: the flow stays balanced and grows. Conditions: a valid net. -/
import Derived.Test.YtgalpgakdcfilaaGreatFlowE
import Derived.Test.YtgalpgakdcfilaaGreatL56
namespace Go.Proofs.YtgalpgakdcfilaaGreat.L
set_option linter.unusedVariables false
set_option linter.unusedSimpArgs false
open Go.RowKit Go.Proofs.YtgalpgakdcfilaaGreatW.PrintWords Go.Proofs.YtgalpgakdcfilaaGreat.PK Go.Proofs.YtgalpgakdcfilaaGreatW.PrintMore
def Flow(w:List P1)(a b:Int)(g:List Int):Prop:=Good w g∧∀z:Int,z≠a→z≠b→bal z w g=0
def Stops(n:Nat)(w:List P1)(a b:Nat)(L:List Int→Nat→Option (List Int×Bool)):Prop:=∀f:List Int,Flow w (a:Int) (b:Int) f→¬(rd_T103 (reachR n w f a) (b:Int)).f2=true→Ev (L f) (f,true)
def Steps(n:Nat)(w:List P1)(a b:Nat)(L:List Int→Nat→Option (List Int×Bool)):Prop:=∀(f:List Int) (rk:Nat→Nat) (c:Nat) (r:List Int×Bool),Flow w (a:Int) (b:Int) f→Tree n w f a (reachR n w f a) rk c→(rd_T103 (reachR n w f a) (b:Int)).f2=true→
  Ev (L (chgW w (reachR n w f a) (a:Int) (roomW w f (reachR n w f a) (a:Int) (rk b) 1000 (b:Int)) (rk b) f (b:Int))) r→Ev (L f) r
theorem gf_loop{n:Nat}{w:List P1}(he:Ends n w)(hlim:Lim w){a b:Nat}(ha:a<n)(hb:b<n)(hab:a≠b):∀(D:Nat) (f:List Int),Flow w (a:Int) (b:Int) f→120000-bal (a:Int) w f≤(D:Int)→
    ∃g,Flow w (a:Int) (b:Int) g∧bal (a:Int) w f≤bal (a:Int) w g∧¬(rd_T103 (reachR n w g a) (b:Int)).f2=true∧∀L,Stops n w a b L→Steps n w a b L→Ev (L f) (g,true):=by
  intro D
  induction D with
  |zero=>
    intro f hf hD
    by_cases c:(rd_T103 (reachR n w f a) (b:Int)).f2=true
    · exfalso
      obtain⟨rk,cc,T⟩:=reachR_tree he f a ha
      have h1:=room_pos hlim T hf.1 (rk b) b 1000 hb c (by omega)
      have h2:=room_fits w f (reachR n w f a) (a:Int) (rk b) 1000 (b:Int)
      obtain⟨k1,k2⟩:=chg_good hlim T hf.1 (show 0≤roomW w f (reachR n w f a) (a:Int) (rk b) 1000 (b:Int) by omega) (rk b) b f hb c (Nat.le_refl _) hf.1 (fun _ _ _ _ _=>rfl) h2
      have k3:=k2 (a:Int)
      rw[if_pos rfl,if_neg (by omega)]at k3
      have k4:=bal_le (a:Int) w _ hlim k1
      have:=he.2.1
      omega
    · exact⟨f,hf,Int.le_refl _,c,fun L hs _=>hs f hf c⟩
  |succ D ih=>
    intro f hf hD
    by_cases c:(rd_T103 (reachR n w f a) (b:Int)).f2=true
    · obtain⟨rk,cc,T⟩:=reachR_tree he f a ha
      have h1:=room_pos hlim T hf.1 (rk b) b 1000 hb c (by omega)
      have h2:=room_fits w f (reachR n w f a) (a:Int) (rk b) 1000 (b:Int)
      obtain⟨k1,k2⟩:=chg_good hlim T hf.1 (show 0≤roomW w f (reachR n w f a) (a:Int) (rk b) 1000 (b:Int) by omega) (rk b) b f hb c (Nat.le_refl _) hf.1 (fun _ _ _ _ _=>rfl) h2
      have k3:=k2 (a:Int)
      rw[if_pos rfl,if_neg (by omega)]at k3
      obtain⟨g,g1,g0,g2,g3⟩:=ih _ ⟨k1,fun z z1 z2=>by rw[k2 z,if_neg z1,if_neg z2,hf.2 z z1 z2];omega⟩ (by omega)
      exact⟨g,g1,by omega,g2,fun L hs ht=>ht f rk cc _ hf T c (g3 L hs ht)⟩
    · exact⟨f,hf,Int.le_refl _,c,fun L hs _=>hs f hf c⟩
theorem bal_zero(z:Int):∀(w:List P1),bal z w (List.replicate w.length 0)=0
  | []=>rfl
  |p::w=>by simp [bal,List.replicate_succ,bal_zero z w]
theorem net_ends{n:Int}{w:List P1}(h:netB n w=true):∃m:Nat,n=m∧2≤m∧Ends m w∧Lim w:=by
  obtain⟨h1,h2,_,h4⟩:=net_facts h
  refine⟨n.toNat,by omega,by omega,⟨by omega,h2,fun p hp=>?_⟩,fun p hp=>?_⟩
  · have:=h4 p hp
    omega
  · have:=h4 p hp
    omega
theorem flow_zero{w:List P1}(hlim:Lim w)(a b:Int):Flow w a b (List.replicate w.length 0):=by
  refine⟨⟨by simp,fun i hi=>?_⟩,fun z _ _=>bal_zero z w⟩
  have:=hlim.at hi
  rw[rd_nat (by simpa using hi)]
  simp only[List.getElem_replicate]
  omega
theorem impl_stops{n:Nat}{w:List P1}(he:Ends n w){a b:Nat}(ha:a<n)(hb:b<n):Stops n w a b (fun f k=>impl_GreatestFlow.l0 k (a:Int) (b:Int) f (n:Int) w):=fun f hf c=>by
  have hl:(reachR n w f a).length=n:=by obtain⟨_,_,T⟩:=reachR_tree he f a ha;exact T.1
  exact Ev.step (fun k=>impl_GreatestFlow.l0.eq_2 ..) (Ev.bind (impl_reach_tells he f hf.1.1 a ha) (Ev.pos (by omega) (Ev.pos (by omega) (Ev.neg c (Ev.now _)))))
theorem impl_steps{n:Nat}{w:List P1}(he:Ends n w){a b:Nat}(ha:a<n)(hb:b<n):Steps n w a b (fun f k=>impl_GreatestFlow.l0 k (a:Int) (b:Int) f (n:Int) w):=fun f rk cc r hf T c g4=>by
  have hl:=T.1
  refine Ev.step (fun k=>impl_GreatestFlow.l0.eq_2 ..) (Ev.bind (impl_reach_tells he f hf.1.1 a ha) (Ev.pos (by omega) (Ev.pos (by omega) (Ev.pos c (Ev.bind0 rfl ?_)))))
  refine Ev.step (fun k=>impl_GreatestFlow.l1.eq_2 ..) (Ev.pos (by simp) (Ev.pos (by omega) (Ev.pos (by simp) ?_)))
  rw[show rdOf false [false,true] 0=false from rfl]
  refine impl_room T hf.1.1 he.2.1 _ _ _ _ _ _ (rk b) b 1000 hb c (Nat.le_refl _) ?_
  rw[show wrap64 (0+1)=1 from by rw[w64 (by omega) (by omega)];rfl]
  refine Ev.step (fun k=>impl_GreatestFlow.l1.eq_2 ..) (Ev.pos (by simp) (Ev.pos (by omega) (Ev.pos (by simp) ?_)))
  rw[show rdOf false [false,true] 1=true from rfl]
  refine impl_chg T he.2.1 _ _ _ _ _ _ _ (rk b) b f hf.1.1 hb c (Nat.le_refl _) ?_
  rw[show wrap64 (1+1)=2 from by rw[w64 (by omega) (by omega)];rfl]
  exact Ev.step (fun k=>impl_GreatestFlow.l1.eq_2 ..) (Ev.neg (by simp) g4)
def Great(n:Int)(w:List P1)(a b:Int)(v:List Int×Bool):Prop:=∃m s t:Nat,n=m∧a=s∧b=t∧s<m∧t<m∧s≠t∧Ends m w∧Lim w∧v.2=true∧Flow w a b v.1∧0≤bal a w v.1∧¬(rd_T103 (reachR m w v.1 s) b).f2=true
theorem great_is{n:Int}{w:List P1}{a b:Int}(c:endsB n w a b=true):∃v:List Int×Bool,Great n w a b v∧∀(m s t:Nat),n=m→a=s→b=t→∀L,Stops m w s t L→Steps m w s t L→Ev (L (List.replicate w.length 0)) v:=by
  obtain⟨c1,c2,c3,c4⟩:=ends_facts c
  obtain⟨m,rfl,hm,he,hlim⟩:=net_ends c1
  obtain⟨s,rfl⟩:∃s:Nat,a=s:=⟨a.toNat,by omega⟩
  obtain⟨t,rfl⟩:∃t:Nat,b=t:=⟨b.toNat,by omega⟩
  obtain⟨g,g1,g0,g2,g3⟩:=gf_loop he hlim (show s<m by omega) (show t<m by omega) (by omega) 120000 _ (flow_zero hlim (s:Int) (t:Int)) (by rw[bal_zero];omega)
  refine⟨(g,true),⟨m,s,t,rfl,rfl,rfl,by omega,by omega,by omega,he,hlim,rfl,g1,by rw[bal_zero]at g0;exact g0,g2⟩,fun m' s' t' e1 e2 e3 L h1 h2=>?_⟩
  obtain rfl:m=m':=by omega
  obtain rfl:s=s':=by omega
  obtain rfl:t=t':=by omega
  exact g3 L h1 h2
theorem great_small{n:Int}{w:List P1}{a b:Int}{v:List Int×Bool}(h:Great n w a b v):v.1.length≤120:=by
  obtain⟨m,s,t,_,_,_,_,_,_,he,_,_,hF,_⟩:=h
  have:=he.2.1
  rw[hF.1.1];exact this
theorem impl_great{n:Int}{w:List P1}{a b:Int}(c:endsB n w a b=true){v:List Int×Bool}(hG:Great n w a b v)(h:∀(m s t:Nat),n=m→a=s→b=t→∀L,Stops m w s t L→Steps m w s t L→Ev (L (List.replicate w.length 0)) v):Ev (fun k=>impl_GreatestFlow.f k n w a b) v:=by
  obtain⟨m,s,t,rfl,rfl,rfl,h1,h2,h3,he,_⟩:=hG
  have h120:=he.2.1
  refine Ev.bind (impl_ends _ w _ _ (by omega)) (Ev.pos c (Ev.pos (by omega) (Ev.pos (by omega) ?_)))
  rw[Int.toNat_natCast]
  exact h m s t rfl rfl rfl _ (impl_stops he h1 h2) (impl_steps he h1 h2)
end Go.Proofs.YtgalpgakdcfilaaGreat.L
