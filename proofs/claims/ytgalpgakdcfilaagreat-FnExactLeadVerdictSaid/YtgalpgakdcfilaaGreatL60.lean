-- Written by a program of this session (wip/xp.py).
import Derived.Test.YtgalpgakdcfilaaGreatL0
import Derived.Test.YtgalpgakdcfilaaGreatL5
import Derived.Test.YtgalpgakdcfilaaGreatL9
import Derived.Test.YtgalpgakdcfilaaGreatL1
import Derived.Test.YtgalpgakdcfilaaGreatL11
import Derived.Test.YtgalpgakdcfilaaGreatL35
import Derived.Test.YtgalpgakdcfilaaGreatL59
namespace Go.Proofs.YtgalpgakdcfilaaGreat.L
open Go.RowKit Go.Proofs.YtgalpgakdcfilaaGreatW.PrintWords Go.Proofs.YtgalpgakdcfilaaGreatW.PrintLast Go.Proofs.YtgalpgakdcfilaaGreatW.PrintMore
attribute [local go_sem] max2_int min2_int max_two min_two max_three min_three max_four min_four
set_option linter.unusedVariables false
set_option linter.unusedSimpArgs false
set_option maxHeartbeats 8000000
set_option maxRecDepth 100000
def laws_eqVerdict.f(k:Nat)(a:Bool)(c:List Int)(d:List Int)(b:Bool)(e:List Int)(g:List Int):Option (Bool):=if(a != b)=true then(some false)else((laws_eqIntS.f k c e).bind fun h=>(if h=true then((laws_eqIntS.f k d g).bind fun i=>(if i=true then(some true)else(some false)))else(some false)))
theorem laws_eqVerdict.calls(k:Nat)(c:Bool)(t:Option Addr)(y:Nat)(g:List Int)(u:Option Addr)(z:Nat)(j:List Int)(d:Bool)(v:Option Addr)(A:Nat)(i:List Int)(x:Option Addr)(B:Nat)(l:List Int)(r:Bool)(w:World)(q:Kd.C (Kd.int .i64) w t g.length g)(o:g.length≤y)(G:Kd.C (Kd.int .i64) w u j.length j)(D:j.length≤z)(s:Kd.C (Kd.int .i64) w v i.length i)(p:i.length≤A)(I:Kd.C (Kd.int .i64) w x l.length l)(E:l.length≤B)(h:laws_eqVerdict.f k c g j d i l=some r):Calls Tryz.prog 16 #[.agg #[.bool c,.slice t g.length y,.slice u j.length z],.agg #[.bool d,.slice v i.length A,.slice x l.length B]] w fun e w'=>e=.returned (.bool r)∧Below w.heap.size w w':=by
 have X:=Tryz.underlying43
 replace q:=am q
 replace o:=am o
 replace G:=am G
 replace D:=am D
 replace s:=am s
 replace p:=am p
 replace I:=am I
 replace E:=am E
 have HB:=qb w
 have H:=h
 unfold laws_eqVerdict.f at H
 clear h
 by_cases c3:(c != d)=true
 ·rw[if_pos c3]at H
  have P:(c != d)=true:=c3
  (try (have T:decide (c=d)=false:=by simpa using c3))
  (try (have U:(c==d)=false:=by simpa using c3))
  (try (have W:¬(c=d):=by simpa using c3))
  clear c3
  obtain rfl:=qj1 H
  go_enter Tryz.func16,Tryz.ntmps16
  go_wp2_with (first|((with_reducible refine gd 2 ?_);refine bx w 2 #[.bool c,.slice t g.length y,.slice u j.length z] 43 ?_;clear HB;intro L w4 a J HB)|((with_reducible refine gd 3 ?_);refine by_ w 3 #[.bool d,.slice v i.length A,.slice x l.length B] 43 ?_;clear HB;intro M hg w5 m K hb HB;obtain⟨b,n⟩:=qn hg a;replace a:=b1 a hb;clear hb hg;obtain⟨_,_⟩:=qo b;obtain⟨_,_,_,_,_,_⟩:=cf3 a.out;obtain⟨_,_,_,_,_,_⟩:=cf3 m.out))
  go_ret
  exact⟨er,bel⟩
 ·rw[if_neg c3]at H
  have P:(c != d)=false:=by simpa using c3
  (try (have T:decide (c=d)=true:=by simpa using c3))
  (try (have U:(c==d)=true:=by simpa using c3))
  clear c3
  replace H:=bm H;obtain⟨Y,A9,H⟩:=H
  replace H:=ib H;obtain⟨rfl,H⟩|⟨rfl,H⟩:=H
  ·replace H:=bm H;obtain⟨Z,O,H⟩:=H
   replace H:=ib H;obtain⟨rfl,H⟩|⟨rfl,H⟩:=H
   ·obtain rfl:=qj1 H
    go_enter Tryz.func16,Tryz.ntmps16
    go_wp2_with (first|((with_reducible refine gd 2 ?_);refine bx w 2 #[.bool c,.slice t g.length y,.slice u j.length z] 43 ?_;clear HB;intro L aa a J HB)|((with_reducible refine gd 3 ?_);refine by_ w 3 #[.bool d,.slice v i.length A,.slice x l.length B] 43 ?_;clear HB;intro M hg ac m K hb HB;obtain⟨b,n⟩:=qn hg a;replace a:=b1 a hb;clear hb hg;obtain⟨_,_⟩:=qo b;obtain⟨_,_,_,_,_,_⟩:=cf3 a.out;obtain⟨_,_,_,_,_,_⟩:=cf3 m.out)|((with_reducible refine gc 9 ?_);refine gl 14 Tryz.func9 (laws_eqIntS.calls k _ _ g _ _ i true _ (cb q HB) o.out (cb s HB) p.out A9.out) ?_;rintro e w' ⟨rfl,⟨nd,rfl⟩⟩;refine⟨_,rfl,?_⟩)|((with_reducible refine gc 9 ?_);refine gl 20 Tryz.func9 (laws_eqIntS.calls k _ _ j _ _ l true _ (ck (Kd.C_below G.out bel)) D.out (ck (Kd.C_below I.out bel)) E.out O.out) ?_;rintro e w' ⟨rfl,⟨nd,rfl⟩⟩;refine⟨_,rfl,?_⟩))
    go_ret
    exact⟨er,bel⟩
   ·obtain rfl:=qj1 H
    go_enter Tryz.func16,Tryz.ntmps16
    go_wp2_with (first|((with_reducible refine gd 2 ?_);refine bx w 2 #[.bool c,.slice t g.length y,.slice u j.length z] 43 ?_;clear HB;intro L ad a J HB)|((with_reducible refine gd 3 ?_);refine by_ w 3 #[.bool d,.slice v i.length A,.slice x l.length B] 43 ?_;clear HB;intro M hg ae m K hb HB;obtain⟨b,n⟩:=qn hg a;replace a:=b1 a hb;clear hb hg;obtain⟨_,_⟩:=qo b;obtain⟨_,_,_,_,_,_⟩:=cf3 a.out;obtain⟨_,_,_,_,_,_⟩:=cf3 m.out)|((with_reducible refine gc 9 ?_);refine gl 14 Tryz.func9 (laws_eqIntS.calls k _ _ g _ _ i true _ (cb q HB) o.out (cb s HB) p.out A9.out) ?_;rintro e w' ⟨rfl,⟨nd,rfl⟩⟩;refine⟨_,rfl,?_⟩)|((with_reducible refine gc 9 ?_);refine gl 20 Tryz.func9 (laws_eqIntS.calls k _ _ j _ _ l false _ (ck (Kd.C_below G.out bel)) D.out (ck (Kd.C_below I.out bel)) E.out O.out) ?_;rintro e w' ⟨rfl,⟨nd,rfl⟩⟩;refine⟨_,rfl,?_⟩))
    go_ret
    exact⟨er,bel⟩
  ·obtain rfl:=qj1 H
   go_enter Tryz.func16,Tryz.ntmps16
   go_wp2_with (first|((with_reducible refine gd 2 ?_);refine bx w 2 #[.bool c,.slice t g.length y,.slice u j.length z] 43 ?_;clear HB;intro L af a J HB)|((with_reducible refine gd 3 ?_);refine by_ w 3 #[.bool d,.slice v i.length A,.slice x l.length B] 43 ?_;clear HB;intro M hg ag m K hb HB;obtain⟨b,n⟩:=qn hg a;replace a:=b1 a hb;clear hb hg;obtain⟨_,_⟩:=qo b;obtain⟨_,_,_,_,_,_⟩:=cf3 a.out;obtain⟨_,_,_,_,_,_⟩:=cf3 m.out)|((with_reducible refine gc 9 ?_);refine gl 14 Tryz.func9 (laws_eqIntS.calls k _ _ g _ _ i false _ (cb q HB) o.out (cb s HB) p.out A9.out) ?_;rintro e w' ⟨rfl,⟨nd,rfl⟩⟩;refine⟨_,rfl,?_⟩))
   go_ret
   exact⟨er,bel⟩
def laws_markVerdict.f(k:Nat)(e:Bool)(c:List Int)(d:List Int)(a1:Int):Option (Int×List Int×List Int):=(laws_markIntS.f k c a1).bind fun a=>((laws_markIntS.f k d a.1).bind fun b=>(some (b.1,a.2,b.2)))
theorem laws_markVerdict.calls(k:Nat)(q:Bool)(a:Nat→Prop)(i:Value)(l:List Int)(b:Nat→Prop)(j:Value)(m:List Int)(a1:Int)(r1:Int)(r2:List Int)(r3:List Int)(w0 w:World)(hB:Below w0.heap.size w0 w)(s:Kd.R (Kd.int .i64) 3 w w0.heap.size a i l)(o:∀k_,a k_→¬b k_)(t:Kd.R (Kd.int .i64) 3 w w0.heap.size b j m)(p:∀k_,b k_→¬a k_)(h:laws_markVerdict.f k q l m a1=some (r1,r2,r3)):Calls Tryz.prog 17 #[.agg #[.bool q,i,j],.int .i64 a1] w fun e w'=>e=.returned (.int .i64 r1)∧Kd.R (Kd.int .i64) 3 w' w0.heap.size (fun k_=>((a k_∨b k_)∨w.heap.size≤k_)) i r2∧Kd.R (Kd.int .i64) 3 w' w0.heap.size (fun k_=>((a k_∨b k_)∨w.heap.size≤k_)) j r3∧Below w0.heap.size w0 w'∧Kept w w' (fun k_=>a k_∨b k_):=by
 have T:=Tryz.underlying43
 have c:=am (show Kd.R (Kd.int .i64) 3 w w0.heap.size (fun k_=>((a k_∨b k_)∨w.heap.size≤k_)∧some k_≠(j:Value).ownBlock) i l from Kd.R_mono s (fun k_ hk=>⟨(.inl (.inl hk)),fun e_=>o k_ hk (t.1 k_ e_.symm)⟩))
 have d:=am (show Kd.R (Kd.int .i64) 3 w w0.heap.size (fun k_=>((a k_∨b k_)∨w.heap.size≤k_)∧some k_≠(i:Value).ownBlock) j m from Kd.R_mono t (fun k_ hk=>⟨(.inl (.inr hk)),fun e_=>p k_ hk (s.1 k_ e_.symm)⟩))
 have HK:=am (Kept.refl w (fun k_=>a k_∨b k_))
 have U:=am hB.size
 have HB:=am hB
 clear hB
 have H:=h
 unfold laws_markVerdict.f at H
 clear h
 replace H:=bm H;obtain⟨⟨I,J⟩,A3,H⟩:=H;dsimp only at H
 replace H:=bm H;obtain⟨⟨K,L⟩,A4,H⟩:=H;dsimp only at H
 obtain⟨rfl,rfl,rfl⟩:=qj3 H
 obtain⟨B,E,O⟩:=Kd.R_slice c.out
 subst O
 obtain⟨D,G,P⟩:=Kd.R_slice d.out
 subst P
 go_enter Tryz.func17,Tryz.ntmps17
 go_wp2_with (first|((with_reducible refine gd 2 ?_);refine bv 2 #[.bool q,.slice B l.length E,.slice D m.length G] 43 ?_;intro r hg w7 hbox hb;have g:=am (hbox);have n:=am ((by rw[hg];exact(by first|exact HK.out.1|exact(show Kept w _ (fun k_=>a k_∨b k_)from by repeat (first|(with_reducible first|exact HK.out|apply Kept.alloc|apply Kept.drewN|apply Kept.drew)|exact HK.out)).1):w.heap.size≤r));have M:=am ((bsz hg:w0.heap.size≤r));replace c:=rb c hb;replace d:=rb d hb;replace HK:=am (Kept.below (S:=(fun k_=>a k_∨b k_)) (by repeat (first|(with_reducible first|exact HK.out|apply Kept.alloc|apply Kept.drewN|apply Kept.drew)|exact HK.out)) hb);replace HB:=b2 hb;clear hb hbox hg;obtain⟨_,_,_,_,_,_⟩:=cf3 g.out)|((with_reducible refine gc 12 ?_);refine gl 8 Tryz.func12 (laws_markIntS.calls k (fun k_=>some k_=(.slice B l.length E:Value).ownBlock) (.slice B l.length E) l a1 I J w0 _ bel (Kd.R_tight rfl c.out) A3.out) ?_;rintro e w9 ⟨rfl,u,hb,hkp⟩;refine⟨_,rfl,?_⟩;have v:=am (Kd.R_reok rfl u (fun k_ e_=>c.out.1 k_ e_));have x:=am (Kd.R_mono (ok':=fun k_=>((a k_∨b k_)∨w.heap.size≤k_)∧some k_≠(.slice B l.length E:Value).ownBlock) (Kd.R_keptB (d.out) hkp (fun k_ hk_ hs_=>(hk_.2) hs_)) (fun k_ hk_=>⟨hk_.1.1,hk_.1.2⟩));have y:=am (blk_kept (bk g.out) hkp (fun hs_=>(fun e_=>(Kd.R_ne c.out g.out (by decide)) e_) hs_));have z:=am (Kept.then_ (S:=(fun k_=>a k_∨b k_)) (by repeat (first|(with_reducible first|exact HK.out|apply Kept.alloc|apply Kept.drewN|apply Kept.drew|refine Kept.setCell ?_ (.inr n.out) _)|exact HK.out)) hkp (fun k_ hs_=>(fun e_=>(c.out.1 k_ e_.symm).1) hs_));have A:=am (hb);clear c;clear d;clear g;clear HK;clear HB;have c:=v;have d:=x;have g:=y;have HK:=z;have HB:=A;clear v x y z A;(try clear hb);(try clear hkp);(try clear u);obtain⟨_,_,_,_,_,_⟩:=cf3 g.out)|((with_reducible refine gc 12 ?_);refine gl 12 Tryz.func12 (laws_markIntS.calls k (fun k_=>some k_=(.slice D m.length G:Value).ownBlock) (.slice D m.length G) m I K L w0 _ bel (Kd.R_tight rfl d.out) A4.out) ?_;rintro e W ⟨rfl,u,hb,hkp⟩;refine⟨_,rfl,?_⟩;have v:=am (Kd.R_mono (ok':=fun k_=>((a k_∨b k_)∨w.heap.size≤k_)∧some k_≠(.slice D m.length G:Value).ownBlock) (Kd.R_keptB (c.out) hkp (fun k_ hk_ hs_=>(hk_.2) hs_)) (fun k_ hk_=>⟨hk_.1.1,hk_.1.2⟩));have x:=am (Kd.R_reok rfl u (fun k_ e_=>d.out.1 k_ e_));have y:=am (blk_kept (bk g.out) hkp (fun hs_=>(fun e_=>(Kd.R_ne d.out g.out (by decide)) e_) hs_));have z:=am (Kept.then_ (S:=(fun k_=>a k_∨b k_)) (by repeat (first|(with_reducible first|exact HK.out|apply Kept.alloc|apply Kept.drewN|apply Kept.drew|refine Kept.setCell ?_ (.inr n.out) _)|exact HK.out)) hkp (fun k_ hs_=>(fun e_=>(d.out.1 k_ e_.symm).1) hs_));have A:=am (hb);clear c;clear d;clear g;clear HK;clear HB;have c:=v;have d:=x;have g:=y;have HK:=z;have HB:=A;clear v x y z A;(try clear hb);(try clear hkp);(try clear u)))
 go_ret
 exact⟨er,by(with_reducible repeat (first|apply Kd.R_alloc|apply Kd.R_drewN|apply Kd.R_drew));exact Kd.R_mono c.out (fun _ hk=>hk.1),by(with_reducible repeat (first|apply Kd.R_alloc|apply Kd.R_drewN|apply Kd.R_drew));exact Kd.R_mono d.out (fun _ hk=>hk.1),bel,by repeat (first|(with_reducible first|exact HK.out|apply Kept.alloc|apply Kept.drewN|apply Kept.drew|refine Kept.setCell ?_ (.inr n.out) _)|exact HK.out)⟩
def laws_heldIntS.l0:Nat→List Int→Int→Int→Option (Int)
  |0,_,_,_=>none
  |k+1,x0,x1,x5=>if x5<(x0.length:Int)then(if 0≤x5 then(if(rd x0 x5)=x1 then(laws_heldIntS.l0 k x0 (wrap64 (x1+1)) (wrap64 (x5+1)))else(some (-1)))else(none))else(some x1)
def laws_heldIntS.f(k:Nat)(l0:List Int)(a1:Int):Option (Int):=laws_heldIntS.l0 k l0 a1 0
theorem laws_heldIntS.calls(k:Nat)(A0:Option Addr)(c0:Nat)(l0:List Int)(a1:Int)(r:Int)(w:World)(g:Kd.C (Kd.int .i64) w A0 l0.length l0)(j:l0.length≤c0)(h:laws_heldIntS.f k l0 a1=some r):Calls Tryz.prog 13 #[.slice A0 l0.length c0,.int .i64 a1] w fun e w'=>e=.returned (.int .i64 r)∧Drawn0 w w':=by
 replace g:=am g
 replace j:=am j
 have H:=h
 unfold laws_heldIntS.f at H
 clear h
 replace H:=am H
 go_enter Tryz.func13,Tryz.ntmps13
 go_wp2
 go_loopg [1,5] k (fun kq v1 v5 w'=>∃(b:Int) (a:Int),v1=.int .i64 b∧v5=.int .i64 a∧Aside0 (laws_heldIntS.l0 kq l0 b a=some r)∧Aside0 (kq≤k)∧Drawn0 w w')
 case atStart=>exact⟨(a1),(0),(es),(es),H,⟨Nat.le_refl _⟩,by repeat (first|exact Drawn0.refl _|apply Drawn0.step)⟩
 case round=>
  clear H
  obtain⟨b,a,rfl,rfl,HA,l,⟨m1,rfl⟩⟩:=hrel
  cases gk with
  |zero=>exact absurd HA.out (by simp [laws_heldIntS.l0])
  |succ k1=>
   have H:=HA.out
   clear HA
   simp only[laws_heldIntS.l0]at H
   replace H:=i1 H;obtain⟨m,H⟩|⟨m,H⟩:=H
   ·replace H:=i0 H;obtain⟨p,H⟩:=H
    replace H:=ie H;obtain⟨n,o,H⟩|⟨⟨c5,n,o⟩,H⟩:=H
    ·replace H:=am H
     have:(0≤(a:Int))=True:=ab
     have:(a<(l0.length:Int))=True:=ab
     obtain⟨i,c,d⟩:=Kd.at_int g.out a asm asm
     cases c
     go_wp2
     go_roundg k1
     case measure=>have:=l.out;omega
     case rel=>exact⟨(wrap64 (b+1)),(wrap64 (a+1)),(es),(es),H,⟨by have:=l.out;omega⟩,by repeat (first|exact Drawn0.refl _|apply Drawn0.step)⟩
    ·obtain rfl:=qj1 H
     have:(0≤(a:Int))=True:=ab
     have:(a<(l0.length:Int))=True:=ab
     obtain⟨i,c,d⟩:=Kd.at_int g.out a asm asm
     cases c
     go_wp2
     go_ret
     exact⟨es,by repeat (first|exact Drawn0.refl _|apply Drawn0.step)⟩
   ·obtain rfl:=qj1 H
    go_wp2
    go_ret
    exact⟨es,by repeat (first|exact Drawn0.refl _|apply Drawn0.step)⟩
def laws_heldVerdict.f(k:Nat)(e:Bool)(c:List Int)(d:List Int)(a1:Int):Option (Int):=(laws_heldIntS.f k c a1).bind fun a=>(if a<0 then(some (-1))else((laws_heldIntS.f k d a).bind fun b=>(if b<0 then(some (-1))else(some b))))
theorem laws_heldVerdict.calls(k:Nat)(n:Bool)(l:Option Addr)(o:Nat)(a:List Int)(m:Option Addr)(p:Nat)(b:List Int)(a1:Int)(r:Int)(w:World)(g:Kd.C (Kd.int .i64) w l a.length a)(d:a.length≤o)(j:Kd.C (Kd.int .i64) w m b.length b)(i:b.length≤p)(h:laws_heldVerdict.f k n a b a1=some r):Calls Tryz.prog 18 #[.agg #[.bool n,.slice l a.length o,.slice m b.length p],.int .i64 a1] w fun e w'=>e=.returned (.int .i64 r)∧Below w.heap.size w w':=by
 have y:=Tryz.underlying43
 replace g:=am g
 replace d:=am d
 replace j:=am j
 replace i:=am i
 have HB:=qb w
 have H:=h
 unfold laws_heldVerdict.f at H
 clear h
 replace H:=bm H;obtain⟨q,A3,H⟩:=H
 replace H:=i1 H;obtain⟨v,H⟩|⟨v,H⟩:=H
 ·obtain rfl:=qj1 H
  go_enter Tryz.func18,Tryz.ntmps18
  go_wp2_with (first|((with_reducible refine gd 2 ?_);refine bx w 2 #[.bool n,.slice l a.length o,.slice m b.length p] 43 ?_;clear HB;intro t w5 c s HB;obtain⟨_,_,_,_,_,_⟩:=cf3 c.out)|((with_reducible refine gc 13 ?_);refine gl 8 Tryz.func13 (laws_heldIntS.calls k _ _ a a1 q _ (cb g HB) d.out A3.out) ?_;rintro e w' ⟨rfl,⟨nd,rfl⟩⟩;refine⟨_,rfl,?_⟩))
  go_ret
  exact⟨er,bel⟩
 ·replace H:=bm H;obtain⟨u,A7,H⟩:=H
  replace H:=i1 H;obtain⟨x,H⟩|⟨x,H⟩:=H
  ·obtain rfl:=qj1 H
   go_enter Tryz.func18,Tryz.ntmps18
   go_wp2_with (first|((with_reducible refine gd 2 ?_);refine bx w 2 #[.bool n,.slice l a.length o,.slice m b.length p] 43 ?_;clear HB;intro t w9 c s HB;obtain⟨_,_,_,_,_,_⟩:=cf3 c.out)|((with_reducible refine gc 13 ?_);refine gl 8 Tryz.func13 (laws_heldIntS.calls k _ _ a a1 q _ (cb g HB) d.out A3.out) ?_;rintro e w' ⟨rfl,⟨nd,rfl⟩⟩;refine⟨_,rfl,?_⟩)|((with_reducible refine gc 13 ?_);refine gl 14 Tryz.func13 (laws_heldIntS.calls k _ _ b q u _ (ck (Kd.C_below j.out bel)) i.out A7.out) ?_;rintro e w' ⟨rfl,⟨nd,rfl⟩⟩;refine⟨_,rfl,?_⟩))
   go_ret
   exact⟨er,bel⟩
  ·obtain rfl:=qj1 H
   go_enter Tryz.func18,Tryz.ntmps18
   go_wp2_with (first|((with_reducible refine gd 2 ?_);refine bx w 2 #[.bool n,.slice l a.length o,.slice m b.length p] 43 ?_;clear HB;intro t z c s HB;obtain⟨_,_,_,_,_,_⟩:=cf3 c.out)|((with_reducible refine gc 13 ?_);refine gl 8 Tryz.func13 (laws_heldIntS.calls k _ _ a a1 q _ (cb g HB) d.out A3.out) ?_;rintro e w' ⟨rfl,⟨nd,rfl⟩⟩;refine⟨_,rfl,?_⟩)|((with_reducible refine gc 13 ?_);refine gl 14 Tryz.func13 (laws_heldIntS.calls k _ _ b q u _ (ck (Kd.C_below j.out bel)) i.out A7.out) ?_;rintro e w' ⟨rfl,⟨nd,rfl⟩⟩;refine⟨_,rfl,?_⟩))
   go_ret
   exact⟨er,bel⟩
def laws_FnExactLeadVerdict.f(k:Nat)(h:List (S82))(c:Int)(d:Int)(e:Int)(i:List Int)(g:Bool)(j:List (S86))(l:List Int)(m:List Int)(a1:Int):Option Bool:=((laws_szBook.f k h c d e i g j l m 1048576).bind fun t1=>(if t1<0 then(some true)else((laws_toBook.f k h c d e i g j l m).bind fun b3=>((spec_LeadVerdict.f k b3.1 b3.2.1 b3.2.2.1 b3.2.2.2.1 b3.2.2.2.2.1 b3.2.2.2.2.2.1 b3.2.2.2.2.2.2.1 b3.2.2.2.2.2.2.2.1 b3.2.2.2.2.2.2.2.2 a1).bind fun b4=>((laws_toBook.f k h c d e i g j l m).bind fun b6=>((impl_LeadVerdict.f k b6.1 b6.2.1 b6.2.2.1 b6.2.2.2.1 b6.2.2.2.2.1 b6.2.2.2.2.2.1 b6.2.2.2.2.2.2.1 b6.2.2.2.2.2.2.2.1 b6.2.2.2.2.2.2.2.2 a1).bind fun b8=>((laws_eqVerdict.f k b8.1 b8.2.1 b8.2.2.1 b4.1 b4.2.1 b4.2.2.1).bind fun r=>(if r=true then(if(b8.2.2.2 != b4.2.2.2)=true then(some false)else((laws_toBook.f k h c d e i g j l m).bind fun a=>((laws_eqBook.f k b6.1 b6.2.1 b6.2.2.1 b6.2.2.2.1 b6.2.2.2.2.1 b6.2.2.2.2.2.1 b6.2.2.2.2.2.2.1 b6.2.2.2.2.2.2.2.1 b6.2.2.2.2.2.2.2.2 a.1 a.2.1 a.2.2.1 a.2.2.2.1 a.2.2.2.2.1 a.2.2.2.2.2.1 a.2.2.2.2.2.2.1 a.2.2.2.2.2.2.2.1 a.2.2.2.2.2.2.2.2).bind fun s=>(if s=true then((laws_markBook.f k b6.1 b6.2.1 b6.2.2.1 b6.2.2.2.1 b6.2.2.2.2.1 b6.2.2.2.2.2.1 b6.2.2.2.2.2.2.1 b6.2.2.2.2.2.2.2.1 b6.2.2.2.2.2.2.2.2 1).bind fun v=>(if v.1<0 then(some false)else((laws_eqVerdict.f k b8.1 b8.2.1 b8.2.2.1 b4.1 b4.2.1 b4.2.2.1).bind fun t=>(if t=true then(if(b8.2.2.2 != b4.2.2.2)=true then(some false)else((laws_markVerdict.f k b8.1 b8.2.1 b8.2.2.1 1).bind fun n=>((laws_heldVerdict.f k b8.1 n.2.1 n.2.2 1).bind fun p=>(if p<0 then(some false)else(if p=n.1 then((laws_toBook.f k h c d e i g j l m).bind fun b=>((impl_LeadVerdict.f k b.1 b.2.1 b.2.2.1 b.2.2.2.1 b.2.2.2.2.1 b.2.2.2.2.2.1 b.2.2.2.2.2.2.1 b.2.2.2.2.2.2.2.1 b.2.2.2.2.2.2.2.2 a1).bind fun o=>((laws_eqVerdict.f k o.1 o.2.1 o.2.2.1 b4.1 b4.2.1 b4.2.2.1).bind fun u=>(if u=true then(if(o.2.2.2 != b4.2.2.2)=true then(some false)else((laws_heldVerdict.f k b8.1 n.2.1 n.2.2 1).bind fun q=>(if q<0 then(some false)else(if q=n.1 then(some true)else(some false)))))else(some false)))))else(some false))))))else(some false)))))else(some false)))))else(some false)))))))))
set_option maxHeartbeats 16000000 in
theorem laws_FnExactLeadVerdict.calls(k:Nat)(aW:Option Addr)(a2:Nat)(aa:List (S82))(ax:Int)(ay:Int)(az:Int)(aX:Option Addr)(a3:Nat)(ac:List Int)(aA:Bool)(aY:Option Addr)(a4:Nat)(ad:List (S86))(aZ:Option Addr)(a5:Nat)(ae:List Int)(a0:Option Addr)(a6:Nat)(af:List Int)(a1:Int)(r:Bool)(w:World)(aq:Kd.C k82 w aW aa.length aa)(ak:aa.length≤a2)(ar:Kd.C (Kd.int .i64) w aX ac.length ac)(al:ac.length≤a3)(au:Kd.C k86 w aY ad.length ad)(an:ad.length≤a4)(av:Kd.C (Kd.int .i64) w aZ ae.length ae)(ao:ae.length≤a5)(aw:Kd.C (Kd.int .i64) w a0 af.length af)(ap:af.length≤a6)(h:laws_FnExactLeadVerdict.f k aa ax ay az ac aA ad ae af a1=some r)(hr_:r=true:=by rfl):Calls Tryz.prog 4 #[.agg #[.slice aW aa.length a2,.int .i64 ax,.int .i64 ay,.int .i64 az,.slice aX ac.length a3,.bool aA,.slice aY ad.length a4,.slice aZ ae.length a5,.slice a0 af.length a6],.int .i64 a1] w fun e w'=>e=.returned (.bool r)∧Below w.heap.size w w':=by
 replace aq:=am aq
 replace ak:=am ak
 replace ar:=am ar
 replace al:=am al
 replace au:=am au
 replace an:=am an
 replace av:=am av
 replace ao:=am ao
 replace aw:=am aw
 replace ap:=am ap
 have HB:=qb w
 have aV:=am (Nat.zero_le w.heap.size)
 subst hr_
 have H:=h
 unfold laws_FnExactLeadVerdict.f at H
 clear h
 replace H:=bm H;obtain⟨t1,df,H⟩:=H
 replace H:=i1 H;obtain⟨dq,H⟩|⟨dq,H⟩:=H
 ·have HE:=am (Option.some.inj H)
  clear H
  go_enter Tryz.func4,Tryz.ntmps4
  go_wp2_with (first|((with_reducible refine gd 2 ?_);refine by_ w 2 #[.slice aW aa.length a2,.int .i64 ax,.int .i64 ay,.int .i64 az,.slice aX ac.length a3,.bool aA,.slice aY ad.length a4,.slice aZ ae.length a5,.slice a0 af.length a6] 28 ?_;clear HB;intro aJ hg ex q _ hb HB;replace aV:=hm aV hb;clear hb hg;obtain⟨a,b,c,d,g,i,j,l,m⟩:=cc9 q.out)|((with_reducible refine gc 5 ?_);refine gl 18 Tryz.func5 (laws_szBook.calls k _ _ aa ax ay az _ _ ac aA _ _ ad _ _ ae _ _ af 1048576 t1 _ (cb aq HB) ak.out (cb ar HB) al.out (cb au HB) an.out (cb av HB) ao.out (cb aw HB) ap.out df.out) ?_;rintro e W1 ⟨rfl,hb⟩;refine⟨_,rfl,?_⟩;replace q:=b1 q hb;clear a b c d g i j l m;obtain⟨a,b,c,d,g,i,j,l,m⟩:=cc9 q.out;replace aV:=hm aV hb;replace HB:=b2 hb;clear hb))
  go_ret
  exact⟨by first|exact congrArg (fun b_=>Ending.returned (.bool b_)) HE.out|rfl,bel⟩
 ·replace H:=bm H;obtain⟨⟨t3,dw,dx,dz,dA,dJ,dK,dN,dO⟩,dg,H⟩:=H;dsimp only at H
  replace H:=bm H;obtain⟨⟨bS,bT,bU,ew⟩,dh,H⟩:=H;dsimp only at H
  replace H:=bm H;obtain⟨⟨bI,bV,bW,bX,a7,bY,bJ,a8,a9⟩,di,H⟩:=H;dsimp only at H
  replace H:=bm H;obtain⟨⟨aR,aS,aT,dy⟩,cA,H⟩:=H;dsimp only at H
  have HN:=am H
  clear H
  go_enter Tryz.func4,Tryz.ntmps4
  go_wp2_with (first|((with_reducible refine gd 2 ?_);refine by_ w 2 #[.slice aW aa.length a2,.int .i64 ax,.int .i64 ay,.int .i64 az,.slice aX ac.length a3,.bool aA,.slice aY ad.length a4,.slice aZ ae.length a5,.slice a0 af.length a6] 28 ?_;clear HB;intro aJ hg ex q _ hb HB;replace aV:=hm aV hb;clear hb hg;obtain⟨a,b,c,d,g,i,j,l,m⟩:=cc9 q.out)|((with_reducible refine gc 5 ?_);refine gl 18 Tryz.func5 (laws_szBook.calls k _ _ aa ax ay az _ _ ac aA _ _ ad _ _ ae _ _ af 1048576 t1 _ (cb aq HB) ak.out (cb ar HB) al.out (cb au HB) an.out (cb av HB) ao.out (cb aw HB) ap.out df.out) ?_;rintro e W1 ⟨rfl,hb⟩;refine⟨_,rfl,?_⟩;replace q:=b1 q hb;clear a b c d g i j l m;obtain⟨a,b,c,d,g,i,j,l,m⟩:=cc9 q.out;replace aV:=hm aV hb;replace HB:=b2 hb;clear hb)|((with_reducible refine gc 7 ?_);refine gl 23 Tryz.func7 (laws_toBook.calls k _ _ aa ax ay az _ _ ac aA _ _ ad _ _ ae _ _ af t3 dw dx dz dA dJ dK dN dO _ (cb aq HB) ak.out (cb ar HB) al.out (cb au HB) an.out (cb av HB) ao.out (cb aw HB) ap.out dg.out) ?_;rintro e W3 ⟨v4,fw,fx,fy,fz,rfl,ai,aj,aO,aP,aQ,hb⟩;refine⟨_,rfl,?_⟩;obtain⟨n3,m3,hn_,hm_,ag⟩:=mk_rowR2 ai bel;have eR:0≤n3:=Nat.le_trans aV.out (Nat.le_of_eq hn_.symm);have fs:n3≤m3:=Nat.le_trans (Nat.le_of_eq hn_) (Nat.le_trans (below_size hb) (Nat.le_of_eq hm_.symm));have dm:=am (show m3≤W3.heap.size from Nat.le_of_eq hm_);have eH:aJ<n3:=(by rw[hn_];exact blk_lt q.out);clear ai;have ah:=row_inR aj bel hn_ hm_;clear aj;have aL:=row_inR aO bel hn_ hm_;clear aO;have aM:=row_inR aP bel hn_ hm_;clear aP;have aN:=row_inR aQ bel hn_ hm_;clear aQ;clear hn_ hm_;replace q:=b1 q hb;clear a b c d g i j l m;obtain⟨a,b,c,d,g,i,j,l,m⟩:=cc9 q.out;replace HB:=b2 hb;clear hb;have cN:=am ag;clear ag;have bK:=am ah;clear ah;have bL:=am aL;clear aL;have bM:=am aM;clear aM;have bN:=am aN;clear aN;obtain⟨ff,fo,eo_⟩:=Kd.R_slice cN.out;subst eo_;obtain⟨ey,eD,eo_⟩:=Kd.R_slice bK.out;subst eo_;obtain⟨ez,eE,eo_⟩:=Kd.R_slice bL.out;subst eo_;obtain⟨eA,eF,eo_⟩:=Kd.R_slice bM.out;subst eo_;obtain⟨eB,eG,eo_⟩:=Kd.R_slice bN.out;subst eo_)|((with_reducible refine gc 14 ?_);refine gl 25 Tryz.func14 (spec_LeadVerdict.calls k _ _ t3 dw dx dz _ _ dA dJ _ _ dK _ _ dN _ _ dO a1 bS bT bU ew _ (rc cN) (rn cN) (rc bK) (rn bK) (rc bL) (rn bL) (rc bM) (rn bM) (rc bN) (rn bN) dh.out) ?_;rintro e W4 ⟨fA,fB,rfl,ai,aj,hb⟩;refine⟨_,rfl,?_⟩;obtain⟨n4,m4,hn_,hm_,ag⟩:=mk_rowR2 ai bel;have eS:m3≤n4:=Nat.le_trans dm.out (Nat.le_of_eq hn_.symm);have ft:n4≤m4:=Nat.le_trans (Nat.le_of_eq hn_) (Nat.le_trans (below_size hb) (Nat.le_of_eq hm_.symm));have bB:=am (show m4≤W4.heap.size from Nat.le_of_eq hm_);clear ai;have ah:=row_inR aj bel hn_ hm_;clear aj;clear hn_ hm_;replace q:=b1 q hb;clear a b c d g i j l m;obtain⟨a,b,c,d,g,i,j,l,m⟩:=cc9 q.out;replace HB:=b2 hb;clear hb;have K:=am ag;clear ag;have L:=am ah;clear ah;obtain⟨dj,dr,eo_⟩:=Kd.R_slice K.out;subst eo_;obtain⟨dk,ds,eo_⟩:=Kd.R_slice L.out;subst eo_)|((with_reducible refine gd 6 ?_);refine bv 6 #[.bool false,.slice none 0 0,.slice none 0 0] 43 ?_;intro bO hg fH hbox hb;have G6:=am hg;have X6:=am hbox;have B6:=am hb;clear hg hbox hb;obtain⟨n,o,p,cO,cP,cQ⟩:=cf3 X6.out)|((with_reducible refine gs 43 6 ?_);refine sv 43 6 ?_;intro fK hw;have hb:=bs3 B6.out (Nat.le_of_eq G6.out.symm) hw;have M:=am (pt3 X6.out hw);clear n o p cO cP cQ hw;have eL:m4≤bO:=(by rw[G6.out];exact bB.out);replace K:=rb K hb;replace L:=rb L hb;replace q:=b1 q hb;clear a b c d g i j l m;obtain⟨a,b,c,d,g,i,j,l,m⟩:=cc9 q.out;replace bB:=hm bB hb;replace HB:=b2 hb;clear hb;obtain⟨n,o,p⟩:=cc3 M.out)|((with_reducible refine gc 7 ?_);refine gl 29 Tryz.func7 (laws_toBook.calls k _ _ aa ax ay az _ _ ac aA _ _ ad _ _ ae _ _ af bI bV bW bX a7 bY bJ a8 a9 _ (cb aq HB) ak.out (cb ar HB) al.out (cb au HB) an.out (cb av HB) ao.out (cb aw HB) ap.out di.out) ?_;rintro e W6 ⟨fC,fD,fE,fF,fG,rfl,ai,aj,aO,aP,aQ,hb⟩;refine⟨_,rfl,?_⟩;obtain⟨n6,m6,hn_,hm_,ag⟩:=mk_rowR2 ai bel;have eT:m4≤n6:=Nat.le_trans bB.out (Nat.le_of_eq hn_.symm);have fu:n6≤m6:=Nat.le_trans (Nat.le_of_eq hn_) (Nat.le_trans (below_size hb) (Nat.le_of_eq hm_.symm));have bC:=am (show m6≤W6.heap.size from Nat.le_of_eq hm_);have eI:bO<n6:=(by rw[hn_];exact blk_lt M.out);clear ai;have ah:=row_inR aj bel hn_ hm_;clear aj;have aL:=row_inR aO bel hn_ hm_;clear aO;have aM:=row_inR aP bel hn_ hm_;clear aP;have aN:=row_inR aQ bel hn_ hm_;clear aQ;clear hn_ hm_;replace K:=rb K hb;replace L:=rb L hb;replace q:=b1 q hb;clear a b c d g i j l m;obtain⟨a,b,c,d,g,i,j,l,m⟩:=cc9 q.out;replace M:=b1 M hb;clear n o p;obtain⟨n,o,p⟩:=cc3 M.out;replace HB:=b2 hb;clear hb;have T:=am ag;clear ag;have U:=am ah;clear ah;have W:=am aL;clear aL;have X:=am aM;clear aM;have Y:=am aN;clear aN;obtain⟨b6,b8,eo_⟩:=Kd.R_slice T.out;subst eo_;obtain⟨bu,bD,eo_⟩:=Kd.R_slice U.out;subst eo_;obtain⟨b7,b9,eo_⟩:=Kd.R_slice W.out;subst eo_;obtain⟨bw,bE,eo_⟩:=Kd.R_slice X.out;subst eo_;obtain⟨bA,bF,eo_⟩:=Kd.R_slice Y.out;subst eo_)|((with_reducible refine gd 8 ?_);refine bv 8 #[.slice none 0 0,.int .i64 0,.int .i64 0,.int .i64 0,.slice none 0 0,.bool false,.slice none 0 0,.slice none 0 0,.slice none 0 0] 35 ?_;intro aK hg fI hbox hb;have G8:=am hg;have X8:=am hbox;have B8:=am hb;clear hg hbox hb;obtain⟨u,v,x,y,z,A,B,D,E,cR,cS,cT,cU,cV,cW,cX,cY,cZ⟩:=cf9 X8.out)|((with_reducible refine gs 35 8 ?_);refine sv 35 8 ?_;intro fL hw;have hb:=bs9 B8.out (Nat.le_of_eq G8.out.symm) hw;have O:=am (pt9 X8.out hw);clear u v x y z A B D E cR cS cT cU cV cW cX cY cZ hw;have eM:m6≤aK:=(by rw[G8.out];exact bC.out);replace K:=rb K hb;replace L:=rb L hb;replace T:=rb T hb;replace U:=rb U hb;replace W:=rb W hb;replace X:=rb X hb;replace Y:=rb Y hb;replace q:=b1 q hb;clear a b c d g i j l m;obtain⟨a,b,c,d,g,i,j,l,m⟩:=cc9 q.out;replace M:=b1 M hb;clear n o p;obtain⟨n,o,p⟩:=cc3 M.out;replace bC:=hm bC hb;replace HB:=b2 hb;clear hb;obtain⟨u,v,x,y,z,A,B,D,E⟩:=cc9 O.out)|((with_reducible refine gc 15 ?_);refine gl 33 Tryz.func15 (impl_LeadVerdict.calls k _ _ bI bV bW bX _ _ a7 bY _ _ bJ _ _ a8 _ _ a9 a1 aR aS aT dy _ (rc T) (rn T) (rc U) (rn U) (rc W) (rn W) (rc X) (rn X) (rc Y) (rn Y) cA.out) ?_;rintro e W8 ⟨eZ,e0,rfl,ai,aj,hb⟩;refine⟨_,rfl,?_⟩;obtain⟨n8,m8,hn_,hm_,ag⟩:=mk_rowR2 ai bel;have eU:m6≤n8:=Nat.le_trans bC.out (Nat.le_of_eq hn_.symm);have fv:n8≤m8:=Nat.le_trans (Nat.le_of_eq hn_) (Nat.le_trans (below_size hb) (Nat.le_of_eq hm_.symm));have aU:=am (show m8≤W8.heap.size from Nat.le_of_eq hm_);have eJ:aK<n8:=(by rw[hn_];exact blk_lt O.out);clear ai;have ah:=row_inR aj bel hn_ hm_;clear aj;clear hn_ hm_;replace K:=rb K hb;replace L:=rb L hb;replace T:=rb T hb;replace U:=rb U hb;replace W:=rb W hb;replace X:=rb X hb;replace Y:=rb Y hb;replace q:=b1 q hb;clear a b c d g i j l m;obtain⟨a,b,c,d,g,i,j,l,m⟩:=cc9 q.out;replace M:=b1 M hb;clear n o p;obtain⟨n,o,p⟩:=cc3 M.out;replace O:=b1 O hb;clear u v x y z A B D E;obtain⟨u,v,x,y,z,A,B,D,E⟩:=cc9 O.out;replace HB:=b2 hb;clear hb;have s:=am ag;clear ag;have t:=am ah;clear ah;obtain⟨ba,bp,eo_⟩:=Kd.R_slice s.out;subst eo_;obtain⟨bc,br,eo_⟩:=Kd.R_slice t.out;subst eo_)|((with_reducible refine gd 9 ?_);refine bv 9 #[.bool false,.slice none 0 0,.slice none 0 0] 43 ?_;intro bP hg fJ hbox hb;have G9:=am hg;have X9:=am hbox;have B9:=am hb;clear hg hbox hb;obtain⟨G,I,J,c0,c1,da⟩:=cf3 X9.out)|((with_reducible refine gs 43 9 ?_);refine sv 43 9 ?_;intro fM hw;have hb:=bs3 B9.out (Nat.le_of_eq G9.out.symm) hw;have P:=am (pt3 X9.out hw);clear G I J c0 c1 da hw;have eN:m8≤bP:=(by rw[G9.out];exact aU.out);replace K:=rb K hb;replace L:=rb L hb;replace T:=rb T hb;replace U:=rb U hb;replace W:=rb W hb;replace X:=rb X hb;replace Y:=rb Y hb;replace s:=rb s hb;replace t:=rb t hb;replace q:=b1 q hb;clear a b c d g i j l m;obtain⟨a,b,c,d,g,i,j,l,m⟩:=cc9 q.out;replace M:=b1 M hb;clear n o p;obtain⟨n,o,p⟩:=cc3 M.out;replace O:=b1 O hb;clear u v x y z A B D E;obtain⟨u,v,x,y,z,A,B,D,E⟩:=cc9 O.out;replace aU:=hm aU hb;replace HB:=b2 hb;clear hb;obtain⟨G,I,J⟩:=cc3 P.out))
  have H:=HN.out
  clear HN
  replace H:=bm H;obtain⟨eV,cB,H⟩:=H
  replace H:=nt H;obtain⟨rfl,H⟩:=H
  replace H:=nb H;obtain⟨dp,d5,H⟩:=H
  have HN:=am H
  clear H
  go_wp2_with (first|(go_at_call 16;refine cm (laws_eqVerdict.calls k aR _ _ aS _ _ aT bS _ _ bT _ _ bU true _ (rc s) (rn s) (rc t) (rn t) (rc K) (rn K) (rc L) (rn L) cB.out) ?_;rintro e fg ⟨rfl,hb⟩;replace K:=rb K hb;replace L:=rb L hb;replace T:=rb T hb;replace U:=rb U hb;replace W:=rb W hb;replace X:=rb X hb;replace Y:=rb Y hb;replace s:=rb s hb;replace t:=rb t hb;replace q:=b1 q hb;clear a b c d g i j l m;obtain⟨a,b,c,d,g,i,j,l,m⟩:=cc9 q.out;replace M:=b1 M hb;clear n o p;obtain⟨n,o,p⟩:=cc3 M.out;replace O:=b1 O hb;clear u v x y z A B D E;obtain⟨u,v,x,y,z,A,B,D,E⟩:=cc9 O.out;replace P:=b1 P hb;clear G I J;obtain⟨G,I,J⟩:=cc3 P.out;replace aU:=hm aU hb;replace HB:=b2 hb;clear hb))
  have H:=HN.out
  clear HN
  replace H:=bm H;obtain⟨⟨ca,cc,cd,ce,cf,cg,ch,ci,cj⟩,cC,H⟩:=H;dsimp only at H
  replace H:=bm H;obtain⟨eW,cD,H⟩:=H
  replace H:=nt H;obtain⟨rfl,H⟩:=H
  have HN:=am H
  clear H
  go_region_held3 (fun w'=>w'.cell? ⟨aJ,0,none⟩=some (.slice aW aa.length a2)∧w'.cell? ⟨aJ,1,none⟩=some (.int .i64 ax)∧w'.cell? ⟨aJ,2,none⟩=some (.int .i64 ay)∧w'.cell? ⟨aJ,3,none⟩=some (.int .i64 az)∧w'.cell? ⟨aJ,4,none⟩=some (.slice aX ac.length a3)∧w'.cell? ⟨aJ,5,none⟩=some (.bool aA)∧w'.cell? ⟨aJ,6,none⟩=some (.slice aY ad.length a4)∧w'.cell? ⟨aJ,7,none⟩=some (.slice aZ ae.length a5)∧w'.cell? ⟨aJ,8,none⟩=some (.slice a0 af.length a6)∧w'.cell? ⟨bO,0,none⟩=some (.bool bS)∧w'.cell? ⟨bO,1,none⟩=some (.slice dj bT.length dr)∧w'.cell? ⟨bO,2,none⟩=some (.slice dk bU.length ds)∧w'.cell? ⟨aK,0,none⟩=some (.slice b6 bI.length b8)∧w'.cell? ⟨aK,1,none⟩=some (.int .i64 bV)∧w'.cell? ⟨aK,2,none⟩=some (.int .i64 bW)∧w'.cell? ⟨aK,3,none⟩=some (.int .i64 bX)∧w'.cell? ⟨aK,4,none⟩=some (.slice bu a7.length bD)∧w'.cell? ⟨aK,5,none⟩=some (.bool bY)∧w'.cell? ⟨aK,6,none⟩=some (.slice b7 bJ.length b9)∧w'.cell? ⟨aK,7,none⟩=some (.slice bw a8.length bE)∧w'.cell? ⟨aK,8,none⟩=some (.slice bA a9.length bF)∧w'.cell? ⟨bP,0,none⟩=some (.bool aR)∧w'.cell? ⟨bP,1,none⟩=some (.slice ba aS.length bp)∧w'.cell? ⟨bP,2,none⟩=some (.slice bc aT.length br)) (go_keep) (first|(go_at_call 7;refine cm (laws_toBook.calls k _ _ aa ax ay az _ _ ac aA _ _ ad _ _ ae _ _ af ca cc cd ce cf cg ch ci cj _ (cb aq HB) ak.out (cb ar HB) al.out (cb au HB) an.out (cb av HB) ao.out (cb aw HB) ap.out cC.out) ?_;rintro e d2 ⟨e1,e2,e3,e4,e5,rfl,ai,aj,aO,aP,aQ,hb⟩;skip;obtain⟨de,db,hn_,hm_,ag⟩:=mk_rowR2 ai bel;have et:m8≤de:=Nat.le_trans aU.out (Nat.le_of_eq hn_.symm);have eO:de≤db:=Nat.le_trans (Nat.le_of_eq hn_) (Nat.le_trans (below_size hb) (Nat.le_of_eq hm_.symm));have Z:=am (show db≤d2.heap.size from Nat.le_of_eq hm_);have eK:bP<de:=(by rw[hn_];exact blk_lt P.out);clear ai;have ah:=row_inR aj bel hn_ hm_;clear aj;have aL:=row_inR aO bel hn_ hm_;clear aO;have aM:=row_inR aP bel hn_ hm_;clear aP;have aN:=row_inR aQ bel hn_ hm_;clear aQ;clear hn_ hm_;replace K:=rb K hb;replace L:=rb L hb;replace T:=rb T hb;replace U:=rb U hb;replace W:=rb W hb;replace X:=rb X hb;replace Y:=rb Y hb;replace s:=rb s hb;replace t:=rb t hb;replace q:=b1 q hb;clear a b c d g i j l m;obtain⟨a,b,c,d,g,i,j,l,m⟩:=cc9 q.out;replace M:=b1 M hb;clear n o p;obtain⟨n,o,p⟩:=cc3 M.out;replace O:=b1 O hb;clear u v x y z A B D E;obtain⟨u,v,x,y,z,A,B,D,E⟩:=cc9 O.out;replace P:=b1 P hb;clear G I J;obtain⟨G,I,J⟩:=cc3 P.out;replace HB:=b2 hb;clear hb;have bd:=am ag;clear ag;have be:=am ah;clear ah;have bf:=am aL;clear aL;have bg:=am aM;clear aM;have bh:=am aN;clear aN;obtain⟨dP,ee,eo_⟩:=Kd.R_slice bd.out;subst eo_;obtain⟨dQ,ef,eo_⟩:=Kd.R_slice be.out;subst eo_;obtain⟨dR,eg,eo_⟩:=Kd.R_slice bf.out;subst eo_;obtain⟨dS,eh,eo_⟩:=Kd.R_slice bg.out;subst eo_;obtain⟨dT,ei,eo_⟩:=Kd.R_slice bh.out;subst eo_)|(go_at_call 10;refine cm (laws_eqBook.calls k _ _ bI bV bW bX _ _ a7 bY _ _ bJ _ _ a8 _ _ a9 _ _ ca cc cd ce _ _ cf cg _ _ ch _ _ ci _ _ cj true _ (rc T) (rn T) (rc U) (rn U) (rc W) (rn W) (rc X) (rn X) (rc Y) (rn Y) (rc bd) (rn bd) (rc be) (rn be) (rc bf) (rn bf) (rc bg) (rn bg) (rc bh) (rn bh) cD.out) ?_;rintro e fh ⟨rfl,hb⟩;skip;replace K:=rb K hb;replace L:=rb L hb;replace T:=rb T hb;replace U:=rb U hb;replace W:=rb W hb;replace X:=rb X hb;replace Y:=rb Y hb;replace s:=rb s hb;replace t:=rb t hb;replace q:=b1 q hb;clear a b c d g i j l m;obtain⟨a,b,c,d,g,i,j,l,m⟩:=cc9 q.out;replace M:=b1 M hb;clear n o p;obtain⟨n,o,p⟩:=cc3 M.out;replace O:=b1 O hb;clear u v x y z A B D E;obtain⟨u,v,x,y,z,A,B,D,E⟩:=cc9 O.out;replace P:=b1 P hb;clear G I J;obtain⟨G,I,J⟩:=cc3 P.out;replace Z:=hm Z hb;replace HB:=b2 hb;clear hb))
  have H:=HN.out
  clear HN
  replace H:=bm H;obtain⟨⟨dB,dC,dD,dE,dF,dG⟩,cE,H⟩:=H;dsimp only at H
  replace H:=nl H;obtain⟨d6,H⟩:=H
  have HN:=am H
  clear H
  go_wp2_with (first|((with_reducible refine gc 11 ?_);refine gl 52 Tryz.func11 (laws_markBook.calls k (fun k_=>some k_=(.slice b6 bI.length b8:Value).ownBlock∧((n6≤k_∧k_<m6)∧True)) _ bI bV bW bX (fun k_=>some k_=(.slice bu a7.length bD:Value).ownBlock∧((n6≤k_∧k_<m6)∧some k_≠(.slice bw a8.length bE:Value).ownBlock∧some k_≠(.slice bA a9.length bF:Value).ownBlock)) _ a7 bY (fun k_=>some k_=(.slice b7 bJ.length b9:Value).ownBlock∧((n6≤k_∧k_<m6)∧True)) _ bJ (fun k_=>some k_=(.slice bw a8.length bE:Value).ownBlock∧((n6≤k_∧k_<m6)∧some k_≠(.slice bu a7.length bD:Value).ownBlock∧some k_≠(.slice bA a9.length bF:Value).ownBlock)) _ a8 (fun k_=>some k_=(.slice bA a9.length bF:Value).ownBlock∧((n6≤k_∧k_<m6)∧some k_≠(.slice bu a7.length bD:Value).ownBlock∧some k_≠(.slice bw a8.length bE:Value).ownBlock)) _ a9 1 dB dC dD dE dF dG w _ bel (rt2 T) (rt2 U) (fun k_ h_ aF=>h_.2.2.1 aF.1) (fun k_ h_ aF=>h_.2.2.2 aF.1) (rt2 W) (rt2 X) (fun k_ h_ aF=>h_.2.2.1 aF.1) (fun k_ h_ aF=>h_.2.2.2 aF.1) (rt2 Y) (fun k_ h_ aF=>h_.2.2.1 aF.1) (fun k_ h_ aF=>h_.2.2.2 aF.1) cE.out) ?_;rintro e fi ⟨rfl,b4,b5,fp,fq,fr,hb,hk⟩;refine⟨_,rfl,?_⟩;replace K:=rs K hk;replace L:=rs L hk;replace s:=rs s hk;replace t:=rs t hk;replace q:=kb q hk;clear a b c d g i j l m;obtain⟨a,b,c,d,g,i,j,l,m⟩:=cc9 q.out;replace M:=kb M hk;clear n o p;obtain⟨n,o,p⟩:=cc3 M.out;replace O:=kb O hk;clear u v x y z A B D E;obtain⟨u,v,x,y,z,A,B,D,E⟩:=cc9 O.out;replace P:=kb P hk;clear G I J;obtain⟨G,I,J⟩:=cc3 P.out;replace HB:=am hb;replace Z:=am (Nat.le_trans Z.out hk.1);clear hb hk))
  have H:=HN.out
  clear HN
  replace H:=bm H;obtain⟨eX,cF,H⟩:=H
  replace H:=nt H;obtain⟨rfl,H⟩:=H
  rw[if_neg (by rw[dp];decide)]at H
  have HN:=am H
  clear H
  go_wp2_with (first|(go_at_call 16;refine cm (laws_eqVerdict.calls k aR _ _ aS _ _ aT bS _ _ bT _ _ bU true _ (rc s) (rn s) (rc t) (rn t) (rc K) (rn K) (rc L) (rn L) cF.out) ?_;rintro e fj ⟨rfl,hb⟩;replace K:=rb K hb;replace L:=rb L hb;replace s:=rb s hb;replace t:=rb t hb;replace q:=b1 q hb;clear a b c d g i j l m;obtain⟨a,b,c,d,g,i,j,l,m⟩:=cc9 q.out;replace M:=b1 M hb;clear n o p;obtain⟨n,o,p⟩:=cc3 M.out;replace O:=b1 O hb;clear u v x y z A B D E;obtain⟨u,v,x,y,z,A,B,D,E⟩:=cc9 O.out;replace P:=b1 P hb;clear G I J;obtain⟨G,I,J⟩:=cc3 P.out;replace Z:=hm Z hb;replace HB:=b2 hb;clear hb))
  have H:=HN.out
  clear HN
  replace H:=bm H;obtain⟨⟨dH,bQ,bR⟩,cG,H⟩:=H;dsimp only at H
  have HN:=am H
  clear H
  go_wp2_with (first|(go_at_call 17;refine cm (laws_markVerdict.calls k aR (fun k_=>some k_=(.slice ba aS.length bp:Value).ownBlock∧((n8≤k_∧k_<m8)∧some k_≠(.slice bc aT.length br:Value).ownBlock)) _ aS (fun k_=>some k_=(.slice bc aT.length br:Value).ownBlock∧((n8≤k_∧k_<m8)∧some k_≠(.slice ba aS.length bp:Value).ownBlock)) _ aT 1 dH bQ bR w _ bel (rt2 s) (fun k_ h_ aF=>h_.2.2 aF.1) (rt2 t) (fun k_ h_ aF=>h_.2.2 aF.1) cG.out) ?_;rintro e fk ⟨rfl,b4,b5,hb,hk⟩;replace K:=rs K hk;replace L:=rs L hk;have bG:=(Kd.R_reads' b4).1;rw[bG]at b4;(try rw[bG]);replace s:=am b4;have bH:=(Kd.R_reads' b5).1;rw[bH]at b5;(try rw[bH]);replace t:=am b5;replace q:=kb q hk;clear a b c d g i j l m;obtain⟨a,b,c,d,g,i,j,l,m⟩:=cc9 q.out;replace M:=kb M hk;clear n o p;obtain⟨n,o,p⟩:=cc3 M.out;replace O:=kb O hk;clear u v x y z A B D E;obtain⟨u,v,x,y,z,A,B,D,E⟩:=cc9 O.out;replace P:=kb P hk;clear G I J;obtain⟨G,I,J⟩:=cc3 P.out;have hbx_:=P.out;rw[bG]at hbx_;replace P:=am hbx_;clear hbx_ G I J;obtain⟨G,I,J⟩:=cc3 P.out;clear bG;have hbx_:=P.out;rw[bH]at hbx_;replace P:=am hbx_;clear hbx_ G I J;obtain⟨G,I,J⟩:=cc3 P.out;clear bH;replace HB:=am hb;replace Z:=am (Nat.le_trans Z.out hk.1);clear hb hk))
  have H:=HN.out
  clear HN
  replace H:=bm H;obtain⟨dI,cH,H⟩:=H
  replace H:=nl H;obtain⟨d7,H⟩:=H
  replace H:=ne_ H;obtain⟨d8,d9,H⟩:=H
  replace H:=bm H;obtain⟨⟨cn,co,cp,cq,cs,ct,cu,cv,cw⟩,cI,H⟩:=H;dsimp only at H
  replace H:=bm H;obtain⟨⟨cx,cy,cz,dL⟩,cJ,H⟩:=H;dsimp only at H
  have HN:=am H
  clear H
  go_wp2_with (first|(go_at_call 18;refine cm (laws_heldVerdict.calls k aR _ _ bQ _ _ bR 1 dI _ (rc s) (rn s) (rc t) (rn t) cH.out) ?_;rintro e fl ⟨rfl,hb⟩;replace K:=rb K hb;replace L:=rb L hb;replace s:=rb s hb;replace t:=rb t hb;replace q:=b1 q hb;clear a b c d g i j l m;obtain⟨a,b,c,d,g,i,j,l,m⟩:=cc9 q.out;replace M:=b1 M hb;clear n o p;obtain⟨n,o,p⟩:=cc3 M.out;replace O:=b1 O hb;clear u v x y z A B D E;obtain⟨u,v,x,y,z,A,B,D,E⟩:=cc9 O.out;replace P:=b1 P hb;clear G I J;obtain⟨G,I,J⟩:=cc3 P.out;replace Z:=hm Z hb;replace HB:=b2 hb;clear hb)|((with_reducible refine gc 7 ?_);refine gl 79 Tryz.func7 (laws_toBook.calls k _ _ aa ax ay az _ _ ac aA _ _ ad _ _ ae _ _ af cn co cp cq cs ct cu cv cw _ (cb aq HB) ak.out (cb ar HB) al.out (cb au HB) an.out (cb av HB) ao.out (cb aw HB) ap.out cI.out) ?_;rintro e d3 ⟨e6,e7,e8,e9,fa,rfl,ai,aj,aO,aP,aQ,hb⟩;refine⟨_,rfl,?_⟩;obtain⟨du,dc,hn_,hm_,ag⟩:=mk_rowR2 ai bel;have eu:db≤du:=Nat.le_trans Z.out (Nat.le_of_eq hn_.symm);have eP:du≤dc:=Nat.le_trans (Nat.le_of_eq hn_) (Nat.le_trans (below_size hb) (Nat.le_of_eq hm_.symm));have cM:=am (show dc≤d3.heap.size from Nat.le_of_eq hm_);clear ai;have ah:=row_inR aj bel hn_ hm_;clear aj;have aL:=row_inR aO bel hn_ hm_;clear aO;have aM:=row_inR aP bel hn_ hm_;clear aP;have aN:=row_inR aQ bel hn_ hm_;clear aQ;clear hn_ hm_;replace K:=rb K hb;replace L:=rb L hb;replace s:=rb s hb;replace t:=rb t hb;replace q:=b1 q hb;clear a b c d g i j l m;obtain⟨a,b,c,d,g,i,j,l,m⟩:=cc9 q.out;replace M:=b1 M hb;clear n o p;obtain⟨n,o,p⟩:=cc3 M.out;replace O:=b1 O hb;clear u v x y z A B D E;obtain⟨u,v,x,y,z,A,B,D,E⟩:=cc9 O.out;replace P:=b1 P hb;clear G I J;obtain⟨G,I,J⟩:=cc3 P.out;replace HB:=b2 hb;clear hb;have bi:=am ag;clear ag;have bj:=am ah;clear ah;have bl:=am aL;clear aL;have bn:=am aM;clear aM;have bo:=am aN;clear aN;obtain⟨dU,ej,eo_⟩:=Kd.R_slice bi.out;subst eo_;obtain⟨dV,ek,eo_⟩:=Kd.R_slice bj.out;subst eo_;obtain⟨dW,el,eo_⟩:=Kd.R_slice bl.out;subst eo_;obtain⟨dX,em,eo_⟩:=Kd.R_slice bn.out;subst eo_;obtain⟨dY,en,eo_⟩:=Kd.R_slice bo.out;subst eo_)|((with_reducible refine gc 15 ?_);refine gl 81 Tryz.func15 (impl_LeadVerdict.calls k _ _ cn co cp cq _ _ cs ct _ _ cu _ _ cv _ _ cw a1 cx cy cz dL _ (rc bi) (rn bi) (rc bj) (rn bj) (rc bl) (rn bl) (rc bn) (rn bn) (rc bo) (rn bo) cJ.out) ?_;rintro e d4 ⟨fb,fc,rfl,ai,aj,hb⟩;refine⟨_,rfl,?_⟩;obtain⟨dv,dd,hn_,hm_,ag⟩:=mk_rowR2 ai bel;have ev:dc≤dv:=Nat.le_trans cM.out (Nat.le_of_eq hn_.symm);have eQ:dv≤dd:=Nat.le_trans (Nat.le_of_eq hn_) (Nat.le_trans (below_size hb) (Nat.le_of_eq hm_.symm));have aE:=am (show dd≤d4.heap.size from Nat.le_of_eq hm_);clear ai;have ah:=row_inR aj bel hn_ hm_;clear aj;clear hn_ hm_;replace K:=rb K hb;replace L:=rb L hb;replace s:=rb s hb;replace t:=rb t hb;replace q:=b1 q hb;clear a b c d g i j l m;obtain⟨a,b,c,d,g,i,j,l,m⟩:=cc9 q.out;replace M:=b1 M hb;clear n o p;obtain⟨n,o,p⟩:=cc3 M.out;replace O:=b1 O hb;clear u v x y z A B D E;obtain⟨u,v,x,y,z,A,B,D,E⟩:=cc9 O.out;replace P:=b1 P hb;clear G I J;obtain⟨G,I,J⟩:=cc3 P.out;replace HB:=b2 hb;clear hb;have aH:=am ag;clear ag;have aI:=am ah;clear ah;obtain⟨dZ,eo,eo_⟩:=Kd.R_slice aH.out;subst eo_;obtain⟨d0,ep,eo_⟩:=Kd.R_slice aI.out;subst eo_)|((with_reducible refine gd 14 ?_);refine bv 14 #[.bool false,.slice none 0 0,.slice none 0 0] 43 ?_;intro dt hg fd hbox hb;have dl:=am hg;have dn:=am hbox;have d1:=am hb;clear hg hbox hb;obtain⟨aB,aC,aD,bZ,b0,b3⟩:=cf3 dn.out)|((with_reducible refine gs 43 14 ?_);refine sv 43 14 ?_;intro fe hw;have hb:=bs3 d1.out (Nat.le_of_eq dl.out.symm) hw;have aG:=am (pt3 dn.out hw);clear aB aC aD bZ b0 b3 hw;have eq:dd≤dt:=(by rw[dl.out];exact aE.out);replace K:=rb K hb;replace L:=rb L hb;replace s:=rb s hb;replace t:=rb t hb;replace aH:=rb aH hb;replace aI:=rb aI hb;replace q:=b1 q hb;clear a b c d g i j l m;obtain⟨a,b,c,d,g,i,j,l,m⟩:=cc9 q.out;replace M:=b1 M hb;clear n o p;obtain⟨n,o,p⟩:=cc3 M.out;replace O:=b1 O hb;clear u v x y z A B D E;obtain⟨u,v,x,y,z,A,B,D,E⟩:=cc9 O.out;replace P:=b1 P hb;clear G I J;obtain⟨G,I,J⟩:=cc3 P.out;replace aE:=hm aE hb;replace HB:=b2 hb;clear hb;obtain⟨aB,aC,aD⟩:=cc3 aG.out))
  have H:=HN.out
  clear HN
  replace H:=bm H;obtain⟨eY,cK,H⟩:=H
  replace H:=nt H;obtain⟨rfl,H⟩:=H
  replace H:=nb H;obtain⟨eC,ea,H⟩:=H
  have HN:=am H
  clear H
  go_wp2_with (first|(go_at_call 16;refine cm (laws_eqVerdict.calls k cx _ _ cy _ _ cz bS _ _ bT _ _ bU true _ (rc aH) (rn aH) (rc aI) (rn aI) (rc K) (rn K) (rc L) (rn L) cK.out) ?_;rintro e fm ⟨rfl,hb⟩;replace s:=rb s hb;replace t:=rb t hb;replace q:=b1 q hb;clear a b c d g i j l m;obtain⟨a,b,c,d,g,i,j,l,m⟩:=cc9 q.out;replace M:=b1 M hb;clear n o p;obtain⟨n,o,p⟩:=cc3 M.out;replace O:=b1 O hb;clear u v x y z A B D E;obtain⟨u,v,x,y,z,A,B,D,E⟩:=cc9 O.out;replace P:=b1 P hb;clear G I J;obtain⟨G,I,J⟩:=cc3 P.out;replace aG:=b1 aG hb;clear aB aC aD;obtain⟨aB,aC,aD⟩:=cc3 aG.out;replace aE:=hm aE hb;replace HB:=b2 hb;clear hb))
  have H:=HN.out
  clear HN
  replace H:=bm H;obtain⟨dM,cL,H⟩:=H
  replace H:=nl H;obtain⟨eb,H⟩:=H
  replace H:=ne_ H;obtain⟨ec,ed,H⟩:=H
  have HE:=am (Option.some.inj H)
  clear H
  go_wp2_with (first|(go_at_call 18;refine cm (laws_heldVerdict.calls k aR _ _ bQ _ _ bR 1 dM _ (rc s) (rn s) (rc t) (rn t) cL.out) ?_;rintro e fn ⟨rfl,hb⟩;replace q:=b1 q hb;clear a b c d g i j l m;obtain⟨a,b,c,d,g,i,j,l,m⟩:=cc9 q.out;replace M:=b1 M hb;clear n o p;obtain⟨n,o,p⟩:=cc3 M.out;replace O:=b1 O hb;clear u v x y z A B D E;obtain⟨u,v,x,y,z,A,B,D,E⟩:=cc9 O.out;replace P:=b1 P hb;clear G I J;obtain⟨G,I,J⟩:=cc3 P.out;replace aG:=b1 aG hb;clear aB aC aD;obtain⟨aB,aC,aD⟩:=cc3 aG.out;replace aE:=hm aE hb;replace HB:=b2 hb;clear hb))
  go_ret
  exact⟨by first|exact congrArg (fun b_=>Ending.returned (.bool b_)) HE.out|rfl,bel⟩
end Go.Proofs.YtgalpgakdcfilaaGreat.L
