-- Written by a program of this session (wip/xp.py).
import Derived.Test.YtgalpgakdcfilaaGreatL0
import Derived.Test.YtgalpgakdcfilaaGreatL44
import Derived.Test.YtgalpgakdcfilaaGreatL48
import Derived.Test.YtgalpgakdcfilaaGreatL50
import Derived.Test.YtgalpgakdcfilaaGreatL56
import Derived.Test.YtgalpgakdcfilaaGreatL57
namespace Go.Proofs.YtgalpgakdcfilaaGreat.L
open Go.RowKit Go.Proofs.YtgalpgakdcfilaaGreatW.PrintWords Go.Proofs.YtgalpgakdcfilaaGreatW.PrintLast Go.Proofs.YtgalpgakdcfilaaGreatW.PrintMore
attribute [local go_sem] max2_int min2_int max_two min_two max_three min_three max_four min_four
set_option linter.unusedVariables false
set_option linter.unusedSimpArgs false
set_option maxHeartbeats 8000000
set_option maxRecDepth 100000
mutual
def impl_LeadVerdict.l0:Nat→Int→List Int→Int→List Int→Int→Int→List (S83)→Int→Int→Int→List Int→Bool→List (S79)→List Int→List Int→Bool→List Int→Option (Bool×List Int×List Int×Bool)
  |0,_,_,_,_,_,_,_,_,_,_,_,_,_,_,_,_,_=>none
  |k+1,x1,x8,p,o,q,n,d,e,g,h,i,j,b,l,m,c,a=>if n<q then(if 0≤n then(if n<(o.length:Int)then(if 0≤(rd o n)then(if(rd o n)<(b.length:Int)then(if((rd_T79 b (rd o n)).f0)=x1 then(if a.length<17592186044416 then(impl_LeadVerdict.l0 k x1 x8 p o q (wrap64 (n+1)) d e g h i j b l m c (a++[1]))else(none))else(if((rd_T79 b (rd o n)).f1)=x1 then(if a.length<17592186044416 then(impl_LeadVerdict.l0 k x1 x8 p o q (wrap64 (n+1)) d e g h i j b l m c (a++[3]))else(none))else(if 0≤(wrap64 ((wrap64 (3*p))+1))then(if(wrap64 ((wrap64 (3*p))+1))<(x8.length:Int)then(if a.length<17592186044416 then(impl_LeadVerdict.l0 k x1 x8 (wrap64 (p+1)) o q (wrap64 (n+1)) d e g h i j b l m c (a++[wrap64 (3-(rd x8 (wrap64 ((wrap64 (3*p))+1))))]))else(none))else(none))else(none))))else(none))else(none))else(none))else(none))else(some (c,a,([]:List Int),true))
def impl_LeadVerdict.l1:Nat→List Bool→Int→Int→Bool→List Int→Option (Bool×List Int×List Int×Bool)
  |0,_,_,_,_,_=>none
  |k+1,e,d,b,c,a=>if b<d then(if 0≤(wrap64 (2+b))then(if(wrap64 (2+b))<(e.length:Int)then(if rdOf false e (wrap64 (2+b))=true then(if a.length<17592186044416 then(impl_LeadVerdict.l1 k e d (wrap64 (b+1)) c (a++[b]))else(none))else(impl_LeadVerdict.l1 k e d (wrap64 (b+1)) c a))else(none))else(none))else(some (c,([]:List Int),a,true))
end
def impl_LeadVerdict.f(k:Nat)(c:List (S83))(e:Int)(g:Int)(h:Int)(j:List Int)(i:Bool)(d:List (S79))(l:List Int)(m:List Int)(a1:Int):Option (Bool×List Int×List Int×Bool):=(impl_isLead.f k c e g h j i d l m a1).bind fun o=>(if o=true then((impl_leadNet.f k c e g h j i d l m a1).bind fun a=>(if a.2.2≥0 then(some (false,([]:List Int),(([a.2.2]:List Int)),true))else((impl_GreatestFlow.f k a.1 a.2.1 0 1).bind fun b=>(if b.2=true then((impl_FlowValue.f k a.1 a.2.1 0 b.1).bind fun p=>((impl_others.f k c e g h j i d l m a1).bind fun q=>(if p=(wrap64 (2*(q.length:Int)))then((impl_OpenGames.f k d).bind fun n=>(impl_LeadVerdict.l0 k a1 b.1 0 n (n.length:Int) 0 c e g h j i d l m true ([]:List Int)))else((impl_SourceSide.f k a.1 a.2.1 0 b.1).bind fun r=>(impl_LeadVerdict.l1 k r (c.length:Int) 0 false ([]:List Int))))))else(some (false,([]:List Int),([]:List Int),false))))))else(some (false,([]:List Int),([]:List Int),false)))
def impl_LeadVerdict.T9:Bool×List (List Nat×List Nat):=(true,[([],[]),([],[]),([0,1],[0,1]),([],[]),([],[]),([3,4,2],[3,4]),([5],[5]),([6],[6]),([2,7],[2,7])])
def impl_LeadVerdict.B9:List Nat:=[0,0,3,0,0,31,63,127,255]
theorem impl_LeadVerdict.tab9:rtab .any (opsOf Tryz.f15 9)=impl_LeadVerdict.T9:=by kernel_rfl
theorem impl_LeadVerdict.bits9:waitsOk impl_LeadVerdict.T9.2 impl_LeadVerdict.B9=true:=by kernel_rfl
def impl_LeadVerdict.T15:Bool×List (List Nat×List Nat):=(true,[([],[]),([0],[0]),([],[]),([],[]),([3],[3]),([4],[4]),([2,5],[2,5]),([6],[6]),([7],[7]),([8],[8]),([1,9],[1,9]),([0,1,2,3,4,5,6,7,8,9,10],[]),([11,10,10,0,1,2,3,4,5,6,7,8,9,10],[10,11])])
def impl_LeadVerdict.B15:List Nat:=[0,1,0,0,8,24,60,124,252,508,1023,2047,4095]
theorem impl_LeadVerdict.tab15:rtab .any (opsOf Tryz.f15 15)=impl_LeadVerdict.T15:=by kernel_rfl
theorem impl_LeadVerdict.bits15:waitsOk impl_LeadVerdict.T15.2 impl_LeadVerdict.B15=true:=by kernel_rfl
theorem impl_LeadVerdict.calls(k:Nat)(aj:Option Addr)(ao:Nat)(B:List (S83))(O:Int)(P:Int)(T:Int)(ak:Option Addr)(ap:Nat)(E:List Int)(U:Bool)(aW:Option Addr)(aq:Nat)(s:List (S79))(al:Option Addr)(ar:Nat)(G:List Int)(an:Option Addr)(au:Nat)(I:List Int)(a1:Int)(r1:Bool)(r2:List Int)(r3:List Int)(r4:Bool)(w:World)(az:Kd.C k83 w aj B.length B)(av:B.length≤ao)(aA:Kd.C (Kd.int .i64) w ak E.length E)(aw:E.length≤ap)(aa:Kd.C k79 w aW s.length s)(ah:s.length≤aq)(aC:Kd.C (Kd.int .i64) w al G.length G)(ax:G.length≤ar)(aD:Kd.C (Kd.int .i64) w an I.length I)(ay:I.length≤au)(h:impl_LeadVerdict.f k B O P T E U s G I a1=some (r1,r2,r3,r4)):Calls Tryz.prog 15 #[.agg #[.slice aj B.length ao,.int .i64 O,.int .i64 P,.int .i64 T,.slice ak E.length ap,.bool U,.slice aW s.length aq,.slice al G.length ar,.slice an I.length au],.int .i64 a1] w fun e w'=>∃fA fB:Value,e=.returned (.tuple #[.agg #[.bool r1,fA,fB],.bool r4])∧Kd.R (Kd.int .i64) 3 w' w.heap.size (fun k_=>some k_≠(fB:Value).ownBlock) fA r2∧Kd.R (Kd.int .i64) 3 w' w.heap.size (fun k_=>some k_≠(fA:Value).ownBlock) fB r3∧Below w.heap.size w w':=by
 have gQ:=Tryz.underlying35
 have gR:=Tryz.underlying43
 have gS:=Tryz.underlying65
 have gT:=Tryz.underlying79
 replace az:=am az
 replace av:=am av
 replace aA:=am aA
 replace aw:=am aw
 replace aa:=am aa
 replace ah:=am ah
 replace aC:=am aC
 replace ax:=am ax
 replace aD:=am aD
 replace ay:=am ay
 have HB:=qb w
 have H:=h
 unfold impl_LeadVerdict.f at H
 clear h
 replace H:=bm H;obtain⟨gU,A3,H⟩:=H
 replace H:=ib H;obtain⟨rfl,H⟩|⟨rfl,H⟩:=H
 ·replace H:=bm H;obtain⟨⟨Z,A,bA⟩,A5,H⟩:=H;dsimp only at H
  replace H:=i1 H;obtain⟨eS,H⟩|⟨eS,H⟩:=H
  ·generalize hy770:(([bA]:List Int))=gj at H
   have dD:=am hy770.symm
   clear hy770
   obtain⟨rfl,rfl,rfl,rfl⟩:=qj4 H
   go_enter Tryz.func15,Tryz.ntmps15
   go_wp2_with (first|((with_reducible refine gd 2 ?_);refine bx w 2 #[.slice aj B.length ao,.int .i64 O,.int .i64 P,.int .i64 T,.slice ak E.length ap,.bool U,.slice aW s.length aq,.slice al G.length ar,.slice an I.length au] 35 ?_;clear HB;intro z w7 a bN HB)|((with_reducible refine gd 4 ?_);refine by_ w 4 #[.bool false,.slice none 0 0,.slice none 0 0] 43 ?_;clear HB;intro ac hg w8 d bO hb HB;obtain⟨D,aG⟩:=qn hg a;replace a:=b1 a hb;clear hb hg;obtain⟨_,_⟩:=qo D;obtain⟨_,_,_,_,_,_,_,_,_,_,_,_,_,_,_,_,_,_⟩:=cf9 a.out)|((with_reducible refine gc 38 ?_);refine gl 20 Tryz.func38 (impl_isLead.calls k _ _ B O P T _ _ E U _ _ s _ _ G _ _ I a1 true _ (cb az HB) av.out (cb aA HB) aw.out (cb aa HB) ah.out (cb aC HB) ax.out (cb aD HB) ay.out A3.out) ?_;rintro e hy ⟨rfl,hb⟩;refine⟨_,rfl,?_⟩;replace a:=b1 a hb;replace d:=b1 d hb;replace HB:=b2 hb;(try clear hb);obtain⟨_,_,_,_,_,_,_,_,_,_,_,_,_,_,_,_,_,_⟩:=cf9 a.out)|((with_reducible refine gc 39 ?_);refine gl 26 Tryz.func39 (impl_leadNet.calls k _ _ B O P T _ _ E U _ _ s _ _ G _ _ I a1 Z A bA _ (cb az HB) av.out (cb aA HB) aw.out (cb aa HB) ah.out (cb aC HB) ax.out (cb aD HB) ay.out A5.out) ?_;rintro e hz ⟨eO,rfl,ad,hb⟩;refine⟨_,rfl,?_⟩;have q:=am (Kd.R_lower ad (below_size bel));replace a:=b1 a hb;replace d:=b1 d hb;replace HB:=b2 hb;(try clear hb);(try clear ad))|((with_reducible refine gd 6 ?_);refine by_ w 6 #[.int .i64 0,.slice none 0 0] 65 ?_;clear HB;intro ai hg hA j b3 hb HB;obtain⟨aE,ae⟩:=qn hg a;obtain⟨aK,af⟩:=qn hg d;replace q:=rb q hb;replace a:=b1 a hb;replace d:=b1 d hb;clear hb hg;obtain⟨_,_⟩:=qo ae;obtain⟨_,_⟩:=qo af;obtain⟨_,_,_,_⟩:=cf2 j.out;obtain⟨gM,gO,fY⟩:=Kd.R_slice q.out;subst fY)|((with_reducible refine gate_dst (N:=32) rfl ?_);refine Kd.R_lit (Kd.int .i64) _ 3 ?hg (N:=32) ?hd (xs:=([bA]:List Int)) (inner:=[.int .i64 bA]) (ok:=fun _=>True) (okp:=fun _=>True) ?hr ?hp (fun _ hk=>hk) trivial (Below.refl _ _) (Nat.le_refl _) (by simp) ?_;(case hd=>rfl);(case hg=>rfl);(case hr=>first|(go_simp;done)|(go_simp;rfl));(case hp=>exact(Reps.one (show Kd.M (Kd.int .i64) _ _ _ bA [.int .i64 bA]from rfl) (Reps.none _ _)));intro gW hB bT hb hg_ hnew_;clear hg_ hnew_;(first|rw[←dD.out]at bT|(simp only[Int.reduceToNat]at bT;rw[←dD.out]at bT));have dx:=am (Kd.R_lower bT (below_size bel));replace q:=am (Kd.R_below (kf (Kd.R_types q.out j.out (by decide)) (fun _ h_=>h_.1)) hb);replace a:=b1 a hb;replace d:=b1 d hb;replace j:=bq j hb;replace HB:=b2 hb;clear hb bT;obtain⟨fN,fU,fZ⟩:=Kd.R_slice dx.out;subst fZ;obtain⟨_,_,_,_,_,_⟩:=cf3 d.out))
   refine bodyPost_ret (results_ct rfl _ _ ac 43 #[.bool false,.slice none 0 0,.slice fN gj.length fU] (0,0) _ rfl (bz d) Tryz.underlying43 rfl (by kernel_rfl)) rfl ?_
   exact⟨_,_,er,qk,(kf (Kd.R_types dx.out d.out (by decide)) (fun _ hk=>(by simp [Value.ownBlock]))),bel⟩
  ·replace H:=bm H;obtain⟨⟨W,gV⟩,e2,H⟩:=H;dsimp only at H
   replace H:=ib H;obtain⟨rfl,H⟩|⟨rfl,H⟩:=H
   ·replace H:=bm H;obtain⟨eV,fL,H⟩:=H
    replace H:=bm H;obtain⟨eW,fM,H⟩:=H
    replace H:=ie H;obtain⟨bC,bD,H⟩|⟨⟨fQ,bC,bD⟩,H⟩:=H
    ·replace H:=bm H;obtain⟨u,gq,H⟩:=H
     replace H:=am H
     go_enter Tryz.func15,Tryz.ntmps15
     try go_wp2_with (first|((with_reducible refine gd 2 ?_);refine bx w 2 #[.slice aj B.length ao,.int .i64 O,.int .i64 P,.int .i64 T,.slice ak E.length ap,.bool U,.slice aW s.length aq,.slice al G.length ar,.slice an I.length au] 35 ?_;clear HB;intro z hC a bN HB)|((with_reducible refine gd 4 ?_);refine by_ w 4 #[.bool false,.slice none 0 0,.slice none 0 0] 43 ?_;clear HB;intro ac hg hD d bO hb HB;obtain⟨D,aG⟩:=qn hg a;replace a:=b1 a hb;clear hb hg;obtain⟨_,_⟩:=qo D;obtain⟨dK,dL,dM,dN,dO,dP,dQ,dR,dS,eg,eh,ei,ej,ek,el,em,en,eo⟩:=cf9 a.out)|((with_reducible refine gc 38 ?_);refine gl 20 Tryz.func38 (impl_isLead.calls k _ _ B O P T _ _ E U _ _ s _ _ G _ _ I a1 true _ (cb az HB) av.out (cb aA HB) aw.out (cb aa HB) ah.out (cb aC HB) ax.out (cb aD HB) ay.out A3.out) ?_;rintro e hE ⟨rfl,hb⟩;refine⟨_,rfl,?_⟩;replace a:=b1 a hb;replace d:=b1 d hb;replace HB:=b2 hb;(try clear hb);obtain⟨dT,dU,dV,dW,dX,dY,dZ,d0,d1,ep,eq,et,eu,ev,ew,ex,ey,ez⟩:=cf9 a.out)|((with_reducible refine gc 39 ?_);refine gl 26 Tryz.func39 (impl_leadNet.calls k _ _ B O P T _ _ E U _ _ s _ _ G _ _ I a1 Z A bA _ (cb az HB) av.out (cb aA HB) aw.out (cb aa HB) ah.out (cb aC HB) ax.out (cb aD HB) ay.out A5.out) ?_;rintro e hF ⟨eO,rfl,ad,hb⟩;refine⟨_,rfl,?_⟩;have q:=am (Kd.R_lower ad (below_size bel));replace a:=b1 a hb;replace d:=b1 d hb;replace HB:=b2 hb;(try clear hb);(try clear ad))|((with_reducible refine gd 6 ?_);refine by_ w 6 #[.int .i64 0,.slice none 0 0] 65 ?_;clear HB;intro ai hg hG j b3 hb HB;obtain⟨aE,ae⟩:=qn hg a;obtain⟨aK,af⟩:=qn hg d;replace q:=rb q hb;replace a:=b1 a hb;replace d:=b1 d hb;clear hb hg;obtain⟨_,_⟩:=qo ae;obtain⟨_,_⟩:=qo af;obtain⟨d2,d3,eA,eB⟩:=cf2 j.out;obtain⟨ba,a6,f5⟩:=Kd.R_slice q.out;subst f5)|((with_reducible refine gate_callee (f:=40) rfl ?_);refine goesL_ (some 36) rfl rfl Tryz.func40 (by kernel_rfl) rfl #[.agg #[.int .i64 Z,.slice ba A.length a6],.int .i64 0,.int .i64 1] rfl ga ?_;(with_reducible refine(impl_GreatestFlow.calls k Z _ _ A 0 1 W true _ ?side1 ?side2 e2.out).mono ?_);(case side1=>refine(Kd.R_reads' (e:=71) (base:=w.heap.size) (ok:=fun k_=>True) (n:=A.length) (c:=a6) ?_).2.2;exact(kf (Kd.R_types q.out j.out (by decide)) (fun _ h_=>h_.1)));(case side2=>exact(Kd.R_reads' q.out).2.1);rintro e gL ⟨eX,rfl,ad,hb⟩;refine⟨_,rfl,?_⟩;have x:=am (Kd.R_lower ad (below_size bel));replace q:=am (Kd.R_below (kf (Kd.R_types q.out j.out (by decide)) (fun _ h_=>h_.1)) hb);replace a:=b1 a hb;replace d:=b1 d hb;replace j:=bq j hb;replace HB:=b2 hb;(try clear hb);(try clear ad)))
     replace q:=am (Kd.R_drew q.out)
     replace x:=am (Kd.R_drew x.out)
     replace a:=am (blk_drew a.out)
     replace d:=am (blk_drew d.out)
     replace j:=am (blk_drew j.out)
     replace HB:=am (below_drew1 HB.out)
     obtain⟨a5,aX,eT⟩:=Kd.R_slice x.out
     (first|subst eT|(injection eT with f1_ f2_ f3_;have bP:=f1_.symm;have bQ:=f3_.symm;clear f1_ f2_ f3_;subst bP;subst bQ))
     refine start_ (n:=9) (S:=fun w'=>w'.cell? ⟨ai,0,none⟩=some (.int .i64 Z)∧w'.cell? ⟨ai,1,none⟩=some (.slice ba A.length a6)∧w'.cell? ⟨z,0,none⟩=some (.slice aj B.length ao)∧w'.cell? ⟨z,1,none⟩=some (.int .i64 O)∧w'.cell? ⟨z,2,none⟩=some (.int .i64 P)∧w'.cell? ⟨z,3,none⟩=some (.int .i64 T)∧w'.cell? ⟨z,4,none⟩=some (.slice ak E.length ap)∧w'.cell? ⟨z,5,none⟩=some (.bool U)∧w'.cell? ⟨z,6,none⟩=some (.slice aW s.length aq)∧w'.cell? ⟨z,7,none⟩=some (.slice al G.length ar)∧w'.cell? ⟨z,8,none⟩=some (.slice an I.length au)) (ds:=[]) (lb 9 0) (by kernel_rfl) rfl rfl ⟨qc j 0,qc j 1,qc a 0,qc a 1,qc a 2,qc a 3,qc a 4,qc a 5,qc a 6,qc a 7,qc a 8⟩ (fun hHeld=>?_);refine with_tabW impl_LeadVerdict.tab9 impl_LeadVerdict.bits9 (fun HT_ HW_=>?_)
     generalize gL.drew=hH at q x a d j HB hHeld⊢
     refine pu HT_ 1 43 (lb 9 2) ?_
     refine pu HT_ 4 46 (lb 9 18) ?_
     refine tk HT_ HW_ hHeld 0 42 (lb 9 19) ?_
     refine tk HT_ HW_ hHeld 3 45 (lb 9 27) ?_
     refine on HT_ 2 44 (lb 9 31) fun K hK=>?_
     refine goes_ Tryz.func41 (by kernel_rfl) rfl #[.agg #[.int .i64 Z,.slice ba A.length a6],.int .i64 0,.slice a5 W.length aX] (by rfl) rfl rfl ga ?_
     refine cm (impl_FlowValue.calls k Z _ _ A 0 _ _ W eV _ (ck (Kd.R_reads' q.out).2.2) ((Kd.R_reads' q.out).2.1) (ck (Kd.R_reads' x.out).2.2) ((Kd.R_reads' x.out).2.1) fL.out) ?_
     rintro e hI ⟨rfl,hb⟩
     refine⟨_,rfl,?_⟩
     replace q:=rb q hb
     replace x:=rb x hb
     replace a:=b1 a hb
     replace d:=b1 d hb
     replace j:=b1 j hb
     replace HB:=b2 hb
     (try clear hb)
     (try clear hk)
     refine hK.out _ _ ⟨qc j 0,qc j 1,qc a 0,qc a 1,qc a 2,qc a 3,qc a 4,qc a 5,qc a 6,qc a 7,qc a 8⟩ (fun hHeld=>?_)
     clear hK K
     refine nm 44 ?_
     refine on HT_ 5 47 (lb 9 63) fun K hK=>?_
     refine goes_ Tryz.func42 (by kernel_rfl) rfl #[.agg #[.slice aj B.length ao,.int .i64 O,.int .i64 P,.int .i64 T,.slice ak E.length ap,.bool U,.slice aW s.length aq,.slice al G.length ar,.slice an I.length au],.int .i64 a1] (by rfl) rfl rfl ga ?_
     refine cm (impl_others.calls k _ _ B O P T _ _ E U _ _ s _ _ G _ _ I a1 eW _ (cb az HB) av.out (cb aA HB) aw.out (cb aa HB) ah.out (cb aC HB) ax.out (cb aD HB) ay.out fM.out) ?_
     rintro e hJ ⟨ge,rfl,ad,hb⟩
     refine⟨_,rfl,?_⟩
     have aJ:=am (Kd.R_lower ad (below_size bel))
     replace q:=rb q hb
     replace x:=rb x hb
     replace a:=b1 a hb
     replace d:=b1 d hb
     replace j:=b1 j hb
     replace HB:=b2 hb
     (try clear hb)
     (try clear hk)
     (try clear ad)
     obtain⟨gN,gP,eU⟩:=Kd.R_slice aJ.out
     (first|subst eU|(injection eU with f1_ f2_ f3_;have bP:=f1_.symm;have bQ:=f3_.symm;clear f1_ f2_ f3_;subst bP;subst bQ))
     refine hK.out _ _ ⟨qc j 0,qc j 1,qc a 0,qc a 1,qc a 2,qc a 3,qc a 4,qc a 5,qc a 6,qc a 7,qc a 8⟩ (fun hHeld=>?_)
     clear hK K
     refine nm 47 ?_
     refine pu HT_ 6 48 (lb 9 127) ?_
     refine pu HT_ 7 49 (lb 9 255) ?_
     refine pu HT_ 8 50 (lb 9 511) ?_
     refine done_ (done_of HT_.out (by kernel_rfl)) ?_
     try go_wp2_with (first|((with_reducible refine gd 10 ?_);refine by_ w 10 #[.bool false,.slice none 0 0,.slice none 0 0] 43 ?_;clear HB;intro a2 hg hL m gw hb HB;obtain⟨aZ,bd⟩:=qn hg a;obtain⟨b4,aM⟩:=qn hg d;obtain⟨b5,aN⟩:=qn hg j;replace q:=rb q hb;replace x:=rb x hb;replace aJ:=rb aJ hb;replace a:=b1 a hb;replace d:=b1 d hb;replace j:=b1 j hb;clear hb hg;obtain⟨_,_⟩:=qo bd;obtain⟨_,_⟩:=qo aM;obtain⟨_,_⟩:=qo aN;obtain⟨d4,d5,d6,eC,eD,eE⟩:=cf3 m.out;obtain⟨d7,d8,d9,ea,eb,ec,ed,ee,ef,eF,eG,eH,eI,eJ,eK,eL,eM,eN⟩:=cf9 a.out)|((with_reducible refine gc 43 ?_);refine gl 54 Tryz.func43 (impl_OpenGames.calls k _ _ s u _ (Kd.C_below aa.out bel) ah.out gq.out) ?_;rintro e hM ⟨gX,rfl,ad,hb⟩;refine⟨_,rfl,?_⟩;have dy:=am (Kd.R_lower (Kd.R_new' ad (Kd.R_lt (kf (Kd.R_types x.out m.out (by decide)) (fun _ h_=>h_.1)))) (below_size bel));replace q:=am (Kd.R_below (kf (Kd.R_types q.out m.out (by decide)) (fun _ h_=>h_.1)) hb);replace x:=am (Kd.R_elder' (kf (Kd.R_types x.out m.out (by decide)) (fun _ h_=>h_.1)) (Kd.R_base ad) hb);replace aJ:=am (Kd.R_below (kf (Kd.R_types aJ.out m.out (by decide)) (fun _ h_=>h_.1)) hb);replace a:=b1 a hb;replace d:=b1 d hb;replace j:=b1 j hb;replace m:=bq m hb;replace HB:=b2 hb;(try clear hb);(try clear ad);obtain⟨dv,a4,f6⟩:=Kd.R_slice dy.out;subst f6))
     go_loopg [11,56] k (fun kq gJ gK w'=>∃(a9:Int) (r:Int) (L:List Int) (u782001:Value),gJ=.int .i64 a9∧gK=.int .i64 r∧Aside0 (impl_LeadVerdict.l0 kq a1 W a9 u (u.length:Int) r B O P T E U s G I true L=some (r1,r2,r3,r4))∧Aside0 (kq≤k)∧Aside0 (Kd.R (Kd.int .i64) 3 w' w.heap.size (fun k_=>some k_≠((.slice dv u.length a4):Value).ownBlock∧some k_≠(u782001:Value).ownBlock) (.slice a5 W.length aX) W)∧Aside0 (Kd.R (Kd.int .i64) 3 w' w.heap.size (fun k_=>some k_≠((.slice a5 W.length aX):Value).ownBlock∧some k_≠(u782001:Value).ownBlock) (.slice dv u.length a4) u)∧Aside0 (Kd.R k71 71 w' w.heap.size (fun _=>True) (.slice ba A.length a6) A)∧Aside0 (Kd.R (Kd.int .i64) 3 w' w.heap.size (fun k_=>some k_≠((.slice a5 W.length aX):Value).ownBlock∧some k_≠((.slice dv u.length a4):Value).ownBlock) u782001 L)∧Aside0 (w'.heap[z]? =some (.cells #[(.slice aj B.length ao),.int .i64 O,.int .i64 P,.int .i64 T,(.slice ak E.length ap),.bool U,(.slice aW s.length aq),(.slice al G.length ar),(.slice an I.length au)] 35 (0,0)))∧Aside0 (w'.heap[ac]? =some (.cells #[.bool false,(.slice none 0 0),(.slice none 0 0)] 43 (0,0)))∧Aside0 (w'.heap[ai]? =some (.cells #[.int .i64 Z,(.slice ba A.length a6)] 65 (0,0)))∧Aside0 (w'.heap[a2]? =some (.cells #[.bool true,u782001,(.slice none 0 0)] 43 (0,0)))∧Aside0 (Below w.heap.size w w'))
     case atStart=>exact⟨(0),(0),(([]:List Int)),(.slice none 0 0),(es),(es),H,⟨Nat.le_refl _⟩,⟨by(with_reducible repeat (first|apply Kd.R_alloc|apply Kd.R_drewN|apply Kd.R_drew));exact Kd.R_mono x.out (fun _ hk=>⟨hk.2,(by simp [Value.ownBlock])⟩)⟩,⟨by(with_reducible repeat (first|apply Kd.R_alloc|apply Kd.R_drewN|apply Kd.R_drew));exact Kd.R_mono dy.out (fun _ hk=>⟨hk.2,(by simp [Value.ownBlock])⟩)⟩,⟨rk q.out⟩,⟨qk⟩,⟨bk a.out⟩,⟨bk d.out⟩,⟨bk j.out⟩,⟨bk m.out⟩,⟨bel⟩⟩
     case round=>
      clear H
      try clear eS;try clear fQ;try clear bC;try clear bD;try clear dK;try clear dL;try clear dM;try clear dN;try clear dO;try clear dP;try clear dQ;try clear dR;try clear dS;try clear dT;try clear dU;try clear dV;try clear dW;try clear dX;try clear dY;try clear dZ;try clear d0;try clear d1;try clear d2;try clear d3;try clear d4;try clear d5;try clear d6;try clear d7;try clear d8;try clear d9;try clear ea;try clear eb;try clear ec;try clear ed;try clear ee;try clear ef;try clear eg;try clear eh;try clear ei;try clear ej;try clear ek;try clear el;try clear em;try clear en;try clear eo;try clear ep;try clear eq;try clear et;try clear eu;try clear ev;try clear ew;try clear ex;try clear ey;try clear ez;try clear eA;try clear eB;try clear eC;try clear eD;try clear eE;try clear eF;try clear eG;try clear eH;try clear eI;try clear eJ;try clear eK;try clear eL;try clear eM;try clear eN
      obtain⟨a9,r,L,u782001,rfl,rfl,HA,bE,Y,y,p,l,a,d,j,m,HB⟩:=hrel
      cases gk with
      |zero=>exact absurd HA.out (by simp [impl_LeadVerdict.l0])
      |succ k1=>
       have H:=HA.out
       clear HA
       simp only[impl_LeadVerdict.l0]at H
       replace H:=i1 H;obtain⟨fk,H⟩|⟨fk,H⟩:=H
       ·replace H:=i0 H;obtain⟨gz,H⟩:=H
        replace H:=i0 H;obtain⟨gA,H⟩:=H
        replace H:=i0 H;obtain⟨gB,H⟩:=H
        replace H:=i0 H;obtain⟨gC,H⟩:=H
        replace H:=ie H;obtain⟨fl,fm,H⟩|⟨⟨hv,fl,fm⟩,H⟩:=H
        ·replace H:=i0 H;obtain⟨fR,H⟩:=H
         have e9:=am (of_decide_eq_true fR)
         clear fR
         generalize hy788:(L++[1]:List Int)=eY at H
         have ff:=am hy788.symm
         clear hy788
         replace H:=am H
         have:(0≤(r:Int))=True:=ab
         have:(r<(u.length:Int))=True:=ab
         obtain⟨aU,bR,bU⟩:=Kd.at_int (Kd.R_reads' y.out).2.2 r asm asm
         cases bR
         obtain⟨_,_⟩:=qo D
         obtain⟨_,_⟩:=qo aE
         obtain⟨_,_⟩:=qo aZ
         obtain⟨_,_,_,_,_,_,_,_,_,_,_,_,_,_,_,_,_,_⟩:=cf9 a.out
         have:(0≤((rd u r):Int))=True:=ab
         have:((rd u r)<(s.length:Int))=True:=ab
         obtain⟨bB,bS,bV,bW,bX,bY,bZ⟩:=hc5 HB.out (at_T79 aa.out (rd u r) asm asm)
         cases bS
         go_wp2_with (first|((with_reducible refine gd 14 ?_);refine by_ w 14 #[.int .i64 0,.int .i64 0,.int .i64 0,.int .i64 0,.int .i64 0] 79 ?_;clear HB;intro aV hg hN t dw hb HB;obtain⟨bF,aQ⟩:=qn hg a;obtain⟨bG,aR⟩:=qn hg d;obtain⟨bH,aT⟩:=qn hg j;obtain⟨be,aH⟩:=qn hg m;replace Y:=rb Y hb;replace y:=rb y hb;replace p:=rb p hb;replace l:=rb l hb;replace a:=b1 a hb;replace d:=b1 d hb;replace j:=b1 j hb;replace m:=b1 m hb;clear hb hg;obtain⟨_,_⟩:=qo aQ;obtain⟨_,_⟩:=qo aR;obtain⟨_,_⟩:=qo aT;obtain⟨_,_⟩:=qo aH;obtain⟨_,_,_,_,_,_,_,_,_,_⟩:=cf5 t.out;obtain⟨_,_⟩:=qo aM;obtain⟨_,_⟩:=qo aN;obtain⟨_,_,_,_,_,_⟩:=cf3 m.out)|((with_reducible refine gate_builtin (b:=.append) (xs:=#[.tmp 85,.tmp 86]) rfl ?_);at_builtin;refine Kd.R_append (Kd.int .i64) (w0:=w) w.heap.size rfl (.tmp 85) (.tmp 86) 23 3 (.int .i64 0) 8 rfl Tryz.underlying23 info3 rfl (by decide) (by omega) u782001 L 1 [.int .i64 1] (fun k_=>some k_≠(.slice a5 W.length aX:Value).ownBlock∧some k_≠(.slice (some aU) u.length a4:Value).ownBlock) (fun _=>False) rfl (by first|(go_simp;done)|(go_simp;rfl)) ?aP (fun _ hk=>hk.elim) ?aF ?aO ?aB ?aS ?aL ?_;(case aP=>exact rfl);(case aB=>exact bel);(case aF=>exact(fun k_ hk=>⟨Kd.fresh' (Kd.R_lt (kf (Kd.R_types Y.out t.out (by decide)) (fun _ h_=>h_.1))) k_ hk,Kd.fresh' (Kd.R_lt (kf (Kd.R_types y.out t.out (by decide)) (fun _ h_=>h_.1))) k_ hk⟩));(case aO=>exact(kf (Kd.R_types l.out t.out (by decide)) (fun _ hk=>⟨hk.1.1,hk.1.2⟩)));(case aS=>exact(below_size bel));(case aL=>have:=e9.out;omega);intro gY hO ho hb hg hat;rw[←ff.out]at ho;have bj:=am (Kd.R_after (ok:=(fun k_=>some k_≠(.slice (some aU) u.length a4:Value).ownBlock)) (kf (Kd.R_types Y.out t.out (by decide)) (fun _ hk=>⟨hk.1.1,hk.1.2⟩)) hg hat);have bl:=am (Kd.R_after (ok:=(fun k_=>some k_≠(.slice a5 W.length aX:Value).ownBlock)) (kf (Kd.R_types y.out t.out (by decide)) (fun _ hk=>⟨hk.1.1,hk.1.2⟩)) hg hat);have bn:=am (Kd.R_over' (kf (Kd.R_types p.out t.out (by decide)) (fun _ h_=>h_.1)) (Kd.R_typed (kf (Kd.R_types l.out t.out (by decide)) (fun _ h_=>h_.1))) (by decide) hg);have bo:=am (blk_grown (g:=z) (o:=.cells #[.slice aj B.length ao,.int .i64 O,.int .i64 P,.int .i64 T,.slice ak E.length ap,.bool U,.slice (some bB) s.length aq,.slice al G.length ar,.slice an I.length au] 35 (0,0)) (bk a.out) hg (Kd.R_ne l.out a.out (by decide)));have bp:=am (blk_grown (g:=ac) (o:=.cells #[.bool false,.slice none 0 0,.slice none 0 0] 43 (0,0)) (bk d.out) hg (Kd.R_ne l.out d.out (by decide)));have br:=am (blk_grown (g:=ai) (o:=.cells #[.int .i64 Z,.slice ba A.length a6] 65 (0,0)) (bk j.out) hg (Kd.R_ne l.out j.out (by decide)));have bu:=am (blk_grown (g:=a2) (o:=.cells #[.bool true,u782001,.slice none 0 0] 43 (0,0)) (bk m.out) hg (Kd.R_ne l.out m.out (by decide)));have bw:=am (blk_grown (g:=aV) (o:=.cells #[.int .i64 ((rd_T79 s (rd u r)).f0),.int .i64 ((rd_T79 s (rd u r)).f1),.int .i64 ((rd_T79 s (rd u r)).f2),.int .i64 ((rd_T79 s (rd u r)).f3),.int .i64 ((rd_T79 s (rd u r)).f4)] 79 (0,0)) (bz t) hg (Kd.R_ne l.out t.out (by decide)));have bK:=am (hb);have bL:=am (ho);clear Y;clear y;clear p;clear a;clear d;clear j;clear m;clear t;clear HB;clear l;have Y:=bj;have y:=bl;have p:=bn;have a:=bo;have d:=bp;have j:=br;have m:=bu;have t:=bw;have HB:=bK;have dz:=bL;clear bj bl bn bo bp br bu bw bK bL;clear ho hb hg hat;obtain⟨fO,fV,f7⟩:=Kd.R_slice dz.out;subst f7;obtain⟨_,_,_,_,_,_⟩:=cf3 m.out))
         go_roundg k1
         case measure=>have:=bE.out;omega
         case rel=>exact⟨(a9),(wrap64 (r+1)),(eY),(.slice fO eY.length fV),(es),(es),H,⟨by have:=bE.out;omega⟩,⟨(kf (Kd.R_types Y.out m.out (by decide)) (fun _ hk=>⟨hk.1.1,hk.1.2⟩))⟩,⟨(kf (Kd.R_types y.out m.out (by decide)) (fun _ hk=>⟨hk.1.1,hk.1.2⟩))⟩,⟨(kf (Kd.R_types p.out m.out (by decide)) (fun _ hk=>trivial))⟩,⟨(kf (Kd.R_types dz.out m.out (by decide)) (fun _ hk=>⟨hk.1.1,hk.1.2⟩))⟩,⟨bk a.out⟩,⟨bk d.out⟩,⟨bk j.out⟩,⟨(bz m)⟩,⟨bel⟩⟩
        ·replace H:=ie H;obtain⟨fn,fo,H⟩|⟨⟨hx,fn,fo⟩,H⟩:=H
         ·replace H:=i0 H;obtain⟨fS,H⟩:=H
          have fa:=am (of_decide_eq_true fS)
          clear fS
          generalize hy791:(L++[3]:List Int)=eZ at H
          have fg:=am hy791.symm
          clear hy791
          replace H:=am H
          have:(0≤(r:Int))=True:=ab
          have:(r<(u.length:Int))=True:=ab
          obtain⟨aU,bR,bU⟩:=Kd.at_int (Kd.R_reads' y.out).2.2 r asm asm
          cases bR
          obtain⟨_,_⟩:=qo D
          obtain⟨_,_⟩:=qo aE
          obtain⟨_,_⟩:=qo aZ
          obtain⟨_,_,_,_,_,_,_,_,_,_,_,_,_,_,_,_,_,_⟩:=cf9 a.out
          have:(0≤((rd u r):Int))=True:=ab
          have:((rd u r)<(s.length:Int))=True:=ab
          obtain⟨bB,bS,bV,bW,bX,bY,bZ⟩:=hc5 HB.out (at_T79 aa.out (rd u r) asm asm)
          cases bS
          go_wp2_with (first|((with_reducible refine gd 14 ?_);refine by_ w 14 #[.int .i64 0,.int .i64 0,.int .i64 0,.int .i64 0,.int .i64 0] 79 ?_;clear HB;intro aV hg hP t dw hb HB;obtain⟨bF,aQ⟩:=qn hg a;obtain⟨bG,aR⟩:=qn hg d;obtain⟨bH,aT⟩:=qn hg j;obtain⟨be,aH⟩:=qn hg m;replace Y:=rb Y hb;replace y:=rb y hb;replace p:=rb p hb;replace l:=rb l hb;replace a:=b1 a hb;replace d:=b1 d hb;replace j:=b1 j hb;replace m:=b1 m hb;clear hb hg;obtain⟨_,_⟩:=qo aQ;obtain⟨_,_⟩:=qo aR;obtain⟨_,_⟩:=qo aT;obtain⟨_,_⟩:=qo aH;obtain⟨_,_,_,_,_,_,_,_,_,_⟩:=cf5 t.out;obtain⟨_,_⟩:=qo aM;obtain⟨_,_⟩:=qo aN;obtain⟨_,_,_,_,_,_⟩:=cf3 m.out)|((with_reducible refine gate_builtin (b:=.append) (xs:=#[.tmp 95,.tmp 96]) rfl ?_);at_builtin;refine Kd.R_append (Kd.int .i64) (w0:=w) w.heap.size rfl (.tmp 95) (.tmp 96) 23 3 (.int .i64 0) 8 rfl Tryz.underlying23 info3 rfl (by decide) (by omega) u782001 L 3 [.int .i64 3] (fun k_=>some k_≠(.slice a5 W.length aX:Value).ownBlock∧some k_≠(.slice (some aU) u.length a4:Value).ownBlock) (fun _=>False) rfl (by first|(go_simp;done)|(go_simp;rfl)) ?aP (fun _ hk=>hk.elim) ?aF ?aO ?aB ?aS ?aL ?_;(case aP=>exact rfl);(case aB=>exact bel);(case aF=>exact(fun k_ hk=>⟨Kd.fresh' (Kd.R_lt (kf (Kd.R_types Y.out t.out (by decide)) (fun _ h_=>h_.1))) k_ hk,Kd.fresh' (Kd.R_lt (kf (Kd.R_types y.out t.out (by decide)) (fun _ h_=>h_.1))) k_ hk⟩));(case aO=>exact(kf (Kd.R_types l.out t.out (by decide)) (fun _ hk=>⟨hk.1.1,hk.1.2⟩)));(case aS=>exact(below_size bel));(case aL=>have:=fa.out;omega);intro gZ hQ ho hb hg hat;rw[←fg.out]at ho;have bj:=am (Kd.R_after (ok:=(fun k_=>some k_≠(.slice (some aU) u.length a4:Value).ownBlock)) (kf (Kd.R_types Y.out t.out (by decide)) (fun _ hk=>⟨hk.1.1,hk.1.2⟩)) hg hat);have bl:=am (Kd.R_after (ok:=(fun k_=>some k_≠(.slice a5 W.length aX:Value).ownBlock)) (kf (Kd.R_types y.out t.out (by decide)) (fun _ hk=>⟨hk.1.1,hk.1.2⟩)) hg hat);have bn:=am (Kd.R_over' (kf (Kd.R_types p.out t.out (by decide)) (fun _ h_=>h_.1)) (Kd.R_typed (kf (Kd.R_types l.out t.out (by decide)) (fun _ h_=>h_.1))) (by decide) hg);have bo:=am (blk_grown (g:=z) (o:=.cells #[.slice aj B.length ao,.int .i64 O,.int .i64 P,.int .i64 T,.slice ak E.length ap,.bool U,.slice (some bB) s.length aq,.slice al G.length ar,.slice an I.length au] 35 (0,0)) (bk a.out) hg (Kd.R_ne l.out a.out (by decide)));have bp:=am (blk_grown (g:=ac) (o:=.cells #[.bool false,.slice none 0 0,.slice none 0 0] 43 (0,0)) (bk d.out) hg (Kd.R_ne l.out d.out (by decide)));have br:=am (blk_grown (g:=ai) (o:=.cells #[.int .i64 Z,.slice ba A.length a6] 65 (0,0)) (bk j.out) hg (Kd.R_ne l.out j.out (by decide)));have bu:=am (blk_grown (g:=a2) (o:=.cells #[.bool true,u782001,.slice none 0 0] 43 (0,0)) (bk m.out) hg (Kd.R_ne l.out m.out (by decide)));have bw:=am (blk_grown (g:=aV) (o:=.cells #[.int .i64 ((rd_T79 s (rd u r)).f0),.int .i64 ((rd_T79 s (rd u r)).f1),.int .i64 ((rd_T79 s (rd u r)).f2),.int .i64 ((rd_T79 s (rd u r)).f3),.int .i64 ((rd_T79 s (rd u r)).f4)] 79 (0,0)) (bz t) hg (Kd.R_ne l.out t.out (by decide)));have bK:=am (hb);have bL:=am (ho);clear Y;clear y;clear p;clear a;clear d;clear j;clear m;clear t;clear HB;clear l;have Y:=bj;have y:=bl;have p:=bn;have a:=bo;have d:=bp;have j:=br;have m:=bu;have t:=bw;have HB:=bK;have dA:=bL;clear bj bl bn bo bp br bu bw bK bL;clear ho hb hg hat;obtain⟨fP,fW,f8⟩:=Kd.R_slice dA.out;subst f8;obtain⟨_,_,_,_,_,_⟩:=cf3 m.out))
          go_roundg k1
          case measure=>have:=bE.out;omega
          case rel=>exact⟨(a9),(wrap64 (r+1)),(eZ),(.slice fP eZ.length fW),(es),(es),H,⟨by have:=bE.out;omega⟩,⟨(kf (Kd.R_types Y.out m.out (by decide)) (fun _ hk=>⟨hk.1.1,hk.1.2⟩))⟩,⟨(kf (Kd.R_types y.out m.out (by decide)) (fun _ hk=>⟨hk.1.1,hk.1.2⟩))⟩,⟨(kf (Kd.R_types p.out m.out (by decide)) (fun _ hk=>trivial))⟩,⟨(kf (Kd.R_types dA.out m.out (by decide)) (fun _ hk=>⟨hk.1.1,hk.1.2⟩))⟩,⟨bk a.out⟩,⟨bk d.out⟩,⟨bk j.out⟩,⟨(bz m)⟩,⟨bel⟩⟩
         ·obtain⟨bi,bI⟩:∃j_:Int,(wrap64 ((wrap64 (3*a9))+1))=j_:=⟨_,rfl⟩
          (first|rw[bI]at H|simp only[bI]at H)
          have gp:(IntKind.i64.wrap ((wrap64 (3*a9))+1))=bi:=(i64_w _).trans bI
          (try rw[bI]at bC)
          (try rw[bI]at bD)
          replace H:=i0 H;obtain⟨gD,H⟩:=H
          replace H:=i0 H;obtain⟨gE,H⟩:=H
          replace H:=i0 H;obtain⟨fT,H⟩:=H
          have fb:=am (of_decide_eq_true fT)
          clear fT
          generalize hy795:(L++[wrap64 (3-(rd W (bi)))]:List Int)=e0 at H
          have fh:=am hy795.symm
          clear hy795
          replace H:=am H
          have:(0≤(r:Int))=True:=ab
          have:(r<(u.length:Int))=True:=ab
          obtain⟨aU,bR,bU⟩:=Kd.at_int (Kd.R_reads' y.out).2.2 r asm asm
          cases bR
          obtain⟨_,_⟩:=qo D
          obtain⟨_,_⟩:=qo aE
          obtain⟨_,_⟩:=qo aZ
          obtain⟨_,_,_,_,_,_,_,_,_,_,_,_,_,_,_,_,_,_⟩:=cf9 a.out
          have:(0≤((rd u r):Int))=True:=ab
          have:((rd u r)<(s.length:Int))=True:=ab
          obtain⟨bB,bS,bV,bW,bX,bY,bZ⟩:=hc5 HB.out (at_T79 aa.out (rd u r) asm asm)
          cases bS
          try go_wp2_with (first|((with_reducible refine gd 14 ?_);refine by_ w 14 #[.int .i64 0,.int .i64 0,.int .i64 0,.int .i64 0,.int .i64 0] 79 ?_;clear HB;intro aV hg gg t dw hb HB;obtain⟨bF,aQ⟩:=qn hg a;obtain⟨bG,aR⟩:=qn hg d;obtain⟨bH,aT⟩:=qn hg j;obtain⟨be,aH⟩:=qn hg m;replace Y:=rb Y hb;replace y:=rb y hb;replace p:=rb p hb;replace l:=rb l hb;replace a:=b1 a hb;replace d:=b1 d hb;replace j:=b1 j hb;replace m:=b1 m hb;clear hb hg;obtain⟨_,_⟩:=qo aQ;obtain⟨_,_⟩:=qo aR;obtain⟨_,_⟩:=qo aT;obtain⟨_,_⟩:=qo aH;obtain⟨_,_,_,_,_,_,_,_,_,_⟩:=cf5 t.out))
          obtain⟨a8,hw⟩:∃W_,W_=(((((gg.setCell ⟨aV,0,none⟩ (.int .i64 ((rd_T79 s (rd u r)).f0))).setCell ⟨aV,1,none⟩ (.int .i64 ((rd_T79 s (rd u r)).f1))).setCell ⟨aV,2,none⟩ (.int .i64 ((rd_T79 s (rd u r)).f2))).setCell ⟨aV,3,none⟩ (.int .i64 ((rd_T79 s (rd u r)).f3))).setCell ⟨aV,4,none⟩ (.int .i64 ((rd_T79 s (rd u r)).f4))):=⟨_,rfl⟩
          rw[←hw]
          have bj:Aside0 (Kd.R (Kd.int .i64) 3 a8 w.heap.size (fun k_=>some k_≠(.slice (some aU) u.length a4:Value).ownBlock∧some k_≠(u782001:Value).ownBlock) (.slice a5 W.length aX) W):=⟨by rw[hw];exact(kf (Kd.R_types Y.out t.out (by decide)) (fun _ hk=>⟨hk.1.1,hk.1.2⟩))⟩
          have bl:Aside0 (Kd.R (Kd.int .i64) 3 a8 w.heap.size (fun k_=>some k_≠(.slice a5 W.length aX:Value).ownBlock∧some k_≠(u782001:Value).ownBlock) (.slice (some aU) u.length a4) u):=⟨by rw[hw];exact(kf (Kd.R_types y.out t.out (by decide)) (fun _ hk=>⟨hk.1.1,hk.1.2⟩))⟩
          have bn:Aside0 (Kd.R k71 71 a8 w.heap.size (fun _=>True) (.slice ba A.length a6) A):=⟨by rw[hw];exact(kf (Kd.R_types p.out t.out (by decide)) (fun _ hk=>trivial))⟩
          have bo:Aside0 (Kd.R (Kd.int .i64) 3 a8 w.heap.size (fun k_=>some k_≠(.slice a5 W.length aX:Value).ownBlock∧some k_≠(.slice (some aU) u.length a4:Value).ownBlock) u782001 L):=⟨by rw[hw];exact(kf (Kd.R_types l.out t.out (by decide)) (fun _ hk=>⟨hk.1.1,hk.1.2⟩))⟩
          have bp:Aside0 (a8.heap[z]? =some (.cells #[.slice aj B.length ao,.int .i64 O,.int .i64 P,.int .i64 T,.slice ak E.length ap,.bool U,.slice (some bB) s.length aq,.slice al G.length ar,.slice an I.length au] 35 (0,0))):=⟨by rw[hw];exact bk a.out⟩
          have br:Aside0 (a8.heap[ac]? =some (.cells #[.bool false,.slice none 0 0,.slice none 0 0] 43 (0,0))):=⟨by rw[hw];exact bk d.out⟩
          have bu:Aside0 (a8.heap[ai]? =some (.cells #[.int .i64 Z,.slice ba A.length a6] 65 (0,0))):=⟨by rw[hw];exact bk j.out⟩
          have bw:Aside0 (a8.heap[a2]? =some (.cells #[.bool true,u782001,.slice none 0 0] 43 (0,0))):=⟨by rw[hw];exact bk m.out⟩
          have bK:Aside0 (a8.heap[aV]? =some (.cells #[.int .i64 ((rd_T79 s (rd u r)).f0),.int .i64 ((rd_T79 s (rd u r)).f1),.int .i64 ((rd_T79 s (rd u r)).f2),.int .i64 ((rd_T79 s (rd u r)).f3),.int .i64 ((rd_T79 s (rd u r)).f4)] 79 (0,0))):=⟨by rw[hw];exact(bz t)⟩
          have bL:Aside0 (Below w.heap.size w a8):=⟨by rw[hw];exact bel⟩
          (try clear Y)
          (try clear y)
          (try clear p)
          (try clear l)
          (try clear a)
          (try clear d)
          (try clear j)
          (try clear m)
          (try clear t)
          (try clear HB)
          clear hw
          have Y:=bj
          have y:=bl
          have p:=bn
          have l:=bo
          have a:=bp
          have d:=br
          have j:=bu
          have m:=bw
          have t:=bK
          have HB:=bL
          clear bj bl bn bo bp br bu bw bK bL
          replace Y:=am (Kd.R_drew Y.out)
          replace y:=am (Kd.R_drew y.out)
          replace p:=am (Kd.R_drew p.out)
          replace l:=am (Kd.R_drew l.out)
          replace a:=am (blk_drew a.out)
          replace d:=am (blk_drew d.out)
          replace j:=am (blk_drew j.out)
          replace m:=am (blk_drew m.out)
          replace t:=am (blk_drew t.out)
          replace HB:=am (below_drew1 HB.out)
          have:(0≤((bi):Int))=True:=ab
          have:((bi)<(W.length:Int))=True:=ab
          obtain⟨b6,fX,b0⟩:=Kd.at_int (Kd.R_reads' Y.out).2.2 (bi) asm asm
          cases fX
          refine start_ (n:=13) (S:=fun w'=>w'.cell? ⟨a2,0,none⟩=some (.bool true)∧w'.cell? ⟨a2,1,none⟩=some (u782001)∧w'.cell? ⟨a2,2,none⟩=some (.slice none 0 0)∧w'.cell? (b6.add ((bi)).toNat)=some (.int .i64 (rd W (bi)))) (ds:=[10,12]) (lb 13 0) (by kernel_rfl) rfl rfl ⟨qc m 0,qc m 1,qc m 2,b0⟩ (fun hHeld=>?_);refine with_tabW impl_LeadVerdict.tab15 impl_LeadVerdict.bits15 (fun HT_ HW_=>?_)
          generalize a8.drew=g2 at Y y p l a d j m t HB b0 hHeld⊢
          refine pu HT_ 0 65 (lb 13 1) ?_
          refine pu HT_ 2 67 (lb 13 5) ?_
          refine pu HT_ 3 68 (lb 13 13) ?_
          refine pu HT_ 4 69 (lb 13 29) ?_
          refine pu HT_ 5 70 (lb 13 61) ?_
          refine pu HT_ 6 71 (lb 13 125) ?_
          refine tk HT_ HW_ hHeld 1 66 (lb 13 127) ?_
          refine tk HT_ HW_ hHeld 7 72 (lb 13 255) ?_
          refine pu HT_ 8 73 (lb 13 511) ?_
          refine on HT_ 9 74 (lb 13 1023) fun K hK=>?_
          refine value_ (w1:=?_) (v:=?_) (by rfl) rfl ?_ ?_
          rotate_left 2
          ·go_simp
           constructor
           ·rfl
           ·rfl
          refine hK.out _ _ ⟨(blk_cell (blk_alloc m.out _) 0).trans rfl,(blk_cell (blk_alloc m.out _) 1).trans rfl,(blk_cell (blk_alloc m.out _) 2).trans rfl,(World.cell?_alloc_lt _ _ _ (World.block_lt_of_cell? _ _ (hHeld.2.2.2))).trans (hHeld.2.2.2)⟩ (fun hHeld=>?_)
          clear hK K
          refine nm 74 ?_
          refine last_ (i:=10) (N:=some 75) (lb 13 2047) rfl rfl (one_of HT_.out (by kernel_rfl)) (by decide) (fun K hK=>?_)
          refine Kd.R_append_step (Kd.int .i64) (w0:=w) w.heap.size (by rfl) (.tmp 66) (.tmp 74) 23 3 (.int .i64 0) 8 rfl Tryz.underlying23 info3 rfl (by decide) (by omega) u782001 L (wrap64 (3-(rd W (bi)))) [.int .i64 (wrap64 (3-(rd W (bi))))] (fun k_=>some k_≠(.slice (some b6) W.length aX:Value).ownBlock∧some k_≠(.slice (some aU) u.length a4:Value).ownBlock) (fun _=>False) rfl rfl ?aP (fun _ hk=>hk.elim) ?aF ?aO ?aB ?aS ?aL ?_
          (case aP=>exact rfl)
          (case aB=>exact bel)
          (case aF=>exact(fun k_ hk=>⟨Kd.fresh' (Kd.R_lt (rk Y.out)) k_ hk,Kd.fresh' (Kd.R_lt (rk y.out)) k_ hk⟩))
          (case aO=>exact(rk l.out))
          (case aS=>exact(below_size bel))
          (case aL=>have:=fb.out;omega)
          intro g0 gh ho hb hg hat
          rw[←fh.out]at ho
          have bj:=am (Kd.R_after (ok:=(fun k_=>some k_≠(.slice (some aU) u.length a4:Value).ownBlock)) (rk Y.out) hg hat)
          have bl:=am (Kd.R_after (ok:=(fun k_=>some k_≠(.slice (some b6) W.length aX:Value).ownBlock)) (rk y.out) hg hat)
          have bn:=am (Kd.R_over' (rk p.out) (Kd.R_typed (rk l.out)) (by decide) hg)
          have bo:=am (blk_grown (g:=z) (o:=.cells #[.slice aj B.length ao,.int .i64 O,.int .i64 P,.int .i64 T,.slice ak E.length ap,.bool U,.slice (some bB) s.length aq,.slice al G.length ar,.slice an I.length au] 35 (0,0)) (bk a.out) hg (Kd.R_ne l.out a.out (by decide)))
          have bp:=am (blk_grown (g:=ac) (o:=.cells #[.bool false,.slice none 0 0,.slice none 0 0] 43 (0,0)) (bk d.out) hg (Kd.R_ne l.out d.out (by decide)))
          have br:=am (blk_grown (g:=ai) (o:=.cells #[.int .i64 Z,.slice ba A.length a6] 65 (0,0)) (bk j.out) hg (Kd.R_ne l.out j.out (by decide)))
          have bu:=am (blk_grown (g:=a2) (o:=.cells #[.bool true,u782001,.slice none 0 0] 43 (0,0)) (bk m.out) hg (Kd.R_ne l.out m.out (by decide)))
          have bw:=am (blk_grown (g:=aV) (o:=.cells #[.int .i64 ((rd_T79 s (rd u r)).f0),.int .i64 ((rd_T79 s (rd u r)).f1),.int .i64 ((rd_T79 s (rd u r)).f2),.int .i64 ((rd_T79 s (rd u r)).f3),.int .i64 ((rd_T79 s (rd u r)).f4)] 79 (0,0)) (bk t.out) hg (Kd.R_ne l.out t.out (by decide)))
          have bK:=am (hb)
          have bL:=am (ho)
          clear Y
          clear y
          clear p
          clear a
          clear d
          clear j
          clear m
          clear t
          clear HB
          clear l
          have Y:=bj
          have y:=bl
          have p:=bn
          have a:=bo
          have d:=bp
          have j:=br
          have m:=bu
          have t:=bw
          have HB:=bK
          have dB:=bL
          clear bj bl bn bo bp br bu bw bK bL
          clear ho hb hg hat
          obtain⟨e3,fp,dG⟩:=Kd.R_slice dB.out
          (first|subst dG|(injection dG with f1_ f2_ f3_;have bP:=f1_.symm;have bQ:=f3_.symm;clear f1_ f2_ f3_;subst bP;subst bQ))
          refine hK.out _ _ ?_
          clear hK K
          refine nm 75 ?_
          refine pu HT_ 11 76 (lb 13 4095) ?_
          refine last_ (i:=12) (N:=none) (lb 13 8191) rfl rfl (one_of HT_.out (by kernel_rfl)) (by decide) (fun K hK=>?_)
          have gI:gh.cell? ⟨a2,1,none⟩=some (u782001):=qc m 1
          have go:=blk_frozen m.out 1
          have fG:=aZ.out
          have fH:=b4.out
          have fI:=b5.out
          have fJ:=aH.out
          have fC:=bd.out
          have fD:=aM.out
          have fE:=aN.out
          have fF:=be.out
          refine skip_ (w1:=?_) (by rfl) rfl ?_ ?_
          rotate_left
          ·go_simp
           rfl
          refine hK.out _ _ ?_
          clear hK K
          refine done_ (done_of HT_.out (by kernel_rfl)) ?_
          try go_wp2
          go_roundg k1
          case measure=>have:=bE.out;omega
          case rel=>exact⟨(wrap64 (a9+1)),(wrap64 (r+1)),(e0),(.slice e3 e0.length fp),(es),(es),H,⟨by have:=bE.out;omega⟩,⟨(kf (Kd.R_types Y.out m.out (by decide)) (fun _ hk=>⟨hk.1.1,hk.1.2⟩))⟩,⟨(kf (Kd.R_types y.out m.out (by decide)) (fun _ hk=>⟨hk.1.1,hk.1.2⟩))⟩,⟨(kf (Kd.R_types p.out m.out (by decide)) (fun _ hk=>trivial))⟩,⟨(kf (Kd.R_types dB.out m.out (by decide)) (fun _ hk=>⟨hk.1.1,hk.1.2⟩))⟩,⟨bk a.out⟩,⟨bk d.out⟩,⟨bk j.out⟩,⟨(bz m)⟩,⟨bel⟩⟩
       ·obtain⟨rfl,rfl,rfl,rfl⟩:=qj4 H
        obtain⟨_,_⟩:=qo bd
        obtain⟨_,_⟩:=qo aM
        obtain⟨_,_⟩:=qo aN
        obtain⟨_,_,_,_,_,_⟩:=cf3 m.out
        obtain⟨_,_⟩:=qo aG
        obtain⟨_,_⟩:=qo aK
        obtain⟨_,_,_,_,_,_⟩:=cf3 d.out
        obtain⟨e4,fq,ft⟩:=Kd.R_slice l.out
        subst ft
        go_wp2
        refine bodyPost_ret (results_ct rfl _ _ ac 43 #[.bool true,.slice e4 L.length fq,.slice none 0 0] (0,0) _ rfl (bz d) Tryz.underlying43 rfl (by kernel_rfl)) rfl ?_
        exact⟨_,_,er,(kf (Kd.R_types l.out d.out (by decide)) (fun _ hk=>(by simp [Value.ownBlock]))),qk,bel⟩
    ·replace H:=bm H;obtain⟨bM,fK,H⟩:=H
     replace H:=am H
     go_enter Tryz.func15,Tryz.ntmps15
     try go_wp2_with (first|((with_reducible refine gd 2 ?_);refine bx w 2 #[.slice aj B.length ao,.int .i64 O,.int .i64 P,.int .i64 T,.slice ak E.length ap,.bool U,.slice aW s.length aq,.slice al G.length ar,.slice an I.length au] 35 ?_;clear HB;intro z g3 a bN HB)|((with_reducible refine gd 4 ?_);refine by_ w 4 #[.bool false,.slice none 0 0,.slice none 0 0] 43 ?_;clear HB;intro ac hg g4 d bO hb HB;obtain⟨D,aG⟩:=qn hg a;replace a:=b1 a hb;clear hb hg;obtain⟨_,_⟩:=qo D;obtain⟨b9,ca,cc,cd,ce,cf,cg,ch,ci,cM,cN,cO,cP,cQ,cR,cS,cT,cU⟩:=cf9 a.out)|((with_reducible refine gc 38 ?_);refine gl 20 Tryz.func38 (impl_isLead.calls k _ _ B O P T _ _ E U _ _ s _ _ G _ _ I a1 true _ (cb az HB) av.out (cb aA HB) aw.out (cb aa HB) ah.out (cb aC HB) ax.out (cb aD HB) ay.out A3.out) ?_;rintro e g5 ⟨rfl,hb⟩;refine⟨_,rfl,?_⟩;replace a:=b1 a hb;replace d:=b1 d hb;replace HB:=b2 hb;(try clear hb);obtain⟨cj,cn,co,cp,cq,cs,ct,cu,cv,cV,cW,cX,cY,cZ,c0,c1,da,db⟩:=cf9 a.out)|((with_reducible refine gc 39 ?_);refine gl 26 Tryz.func39 (impl_leadNet.calls k _ _ B O P T _ _ E U _ _ s _ _ G _ _ I a1 Z A bA _ (cb az HB) av.out (cb aA HB) aw.out (cb aa HB) ah.out (cb aC HB) ax.out (cb aD HB) ay.out A5.out) ?_;rintro e g6 ⟨eO,rfl,ad,hb⟩;refine⟨_,rfl,?_⟩;have q:=am (Kd.R_lower ad (below_size bel));replace a:=b1 a hb;replace d:=b1 d hb;replace HB:=b2 hb;(try clear hb);(try clear ad))|((with_reducible refine gd 6 ?_);refine by_ w 6 #[.int .i64 0,.slice none 0 0] 65 ?_;clear HB;intro ai hg g7 j b3 hb HB;obtain⟨aE,ae⟩:=qn hg a;obtain⟨aK,af⟩:=qn hg d;replace q:=rb q hb;replace a:=b1 a hb;replace d:=b1 d hb;clear hb hg;obtain⟨_,_⟩:=qo ae;obtain⟨_,_⟩:=qo af;obtain⟨cw,cx,dc,dd⟩:=cf2 j.out;obtain⟨bc,a0,fu⟩:=Kd.R_slice q.out;subst fu)|((with_reducible refine gate_callee (f:=40) rfl ?_);refine goesL_ (some 36) rfl rfl Tryz.func40 (by kernel_rfl) rfl #[.agg #[.int .i64 Z,.slice bc A.length a0],.int .i64 0,.int .i64 1] rfl ga ?_;(with_reducible refine(impl_GreatestFlow.calls k Z _ _ A 0 1 W true _ ?side1 ?side2 e2.out).mono ?_);(case side1=>refine(Kd.R_reads' (e:=71) (base:=w.heap.size) (ok:=fun k_=>True) (n:=A.length) (c:=a0) ?_).2.2;exact(kf (Kd.R_types q.out j.out (by decide)) (fun _ h_=>h_.1)));(case side2=>exact(Kd.R_reads' q.out).2.1);rintro e gi ⟨eX,rfl,ad,hb⟩;refine⟨_,rfl,?_⟩;have x:=am (Kd.R_lower ad (below_size bel));replace q:=am (Kd.R_below (kf (Kd.R_types q.out j.out (by decide)) (fun _ h_=>h_.1)) hb);replace a:=b1 a hb;replace d:=b1 d hb;replace j:=bq j hb;replace HB:=b2 hb;(try clear hb);(try clear ad)))
     replace q:=am (Kd.R_drew q.out)
     replace x:=am (Kd.R_drew x.out)
     replace a:=am (blk_drew a.out)
     replace d:=am (blk_drew d.out)
     replace j:=am (blk_drew j.out)
     replace HB:=am (below_drew1 HB.out)
     obtain⟨du,b7,dH⟩:=Kd.R_slice x.out
     (first|subst dH|(injection dH with f1_ f2_ f3_;have bP:=f1_.symm;have bQ:=f3_.symm;clear f1_ f2_ f3_;subst bP;subst bQ))
     refine start_ (n:=9) (S:=fun w'=>w'.cell? ⟨ai,0,none⟩=some (.int .i64 Z)∧w'.cell? ⟨ai,1,none⟩=some (.slice bc A.length a0)∧w'.cell? ⟨z,0,none⟩=some (.slice aj B.length ao)∧w'.cell? ⟨z,1,none⟩=some (.int .i64 O)∧w'.cell? ⟨z,2,none⟩=some (.int .i64 P)∧w'.cell? ⟨z,3,none⟩=some (.int .i64 T)∧w'.cell? ⟨z,4,none⟩=some (.slice ak E.length ap)∧w'.cell? ⟨z,5,none⟩=some (.bool U)∧w'.cell? ⟨z,6,none⟩=some (.slice aW s.length aq)∧w'.cell? ⟨z,7,none⟩=some (.slice al G.length ar)∧w'.cell? ⟨z,8,none⟩=some (.slice an I.length au)) (ds:=[]) (lb 9 0) (by kernel_rfl) rfl rfl ⟨qc j 0,qc j 1,qc a 0,qc a 1,qc a 2,qc a 3,qc a 4,qc a 5,qc a 6,qc a 7,qc a 8⟩ (fun hHeld=>?_);refine with_tabW impl_LeadVerdict.tab9 impl_LeadVerdict.bits9 (fun HT_ HW_=>?_)
     generalize gi.drew=g8 at q x a d j HB hHeld⊢
     refine pu HT_ 1 43 (lb 9 2) ?_
     refine pu HT_ 4 46 (lb 9 18) ?_
     refine tk HT_ HW_ hHeld 0 42 (lb 9 19) ?_
     refine tk HT_ HW_ hHeld 3 45 (lb 9 27) ?_
     refine on HT_ 2 44 (lb 9 31) fun K hK=>?_
     refine goes_ Tryz.func41 (by kernel_rfl) rfl #[.agg #[.int .i64 Z,.slice bc A.length a0],.int .i64 0,.slice du W.length b7] (by rfl) rfl rfl ga ?_
     refine cm (impl_FlowValue.calls k Z _ _ A 0 _ _ W eV _ (ck (Kd.R_reads' q.out).2.2) ((Kd.R_reads' q.out).2.1) (ck (Kd.R_reads' x.out).2.2) ((Kd.R_reads' x.out).2.1) fL.out) ?_
     rintro e g9 ⟨rfl,hb⟩
     refine⟨_,rfl,?_⟩
     replace q:=rb q hb
     replace x:=rb x hb
     replace a:=b1 a hb
     replace d:=b1 d hb
     replace j:=b1 j hb
     replace HB:=b2 hb
     (try clear hb)
     (try clear hk)
     refine hK.out _ _ ⟨qc j 0,qc j 1,qc a 0,qc a 1,qc a 2,qc a 3,qc a 4,qc a 5,qc a 6,qc a 7,qc a 8⟩ (fun hHeld=>?_)
     clear hK K
     refine nm 44 ?_
     refine on HT_ 5 47 (lb 9 63) fun K hK=>?_
     refine goes_ Tryz.func42 (by kernel_rfl) rfl #[.agg #[.slice aj B.length ao,.int .i64 O,.int .i64 P,.int .i64 T,.slice ak E.length ap,.bool U,.slice aW s.length aq,.slice al G.length ar,.slice an I.length au],.int .i64 a1] (by rfl) rfl rfl ga ?_
     refine cm (impl_others.calls k _ _ B O P T _ _ E U _ _ s _ _ G _ _ I a1 eW _ (cb az HB) av.out (cb aA HB) aw.out (cb aa HB) ah.out (cb aC HB) ax.out (cb aD HB) ay.out fM.out) ?_
     rintro e ha ⟨ge,rfl,ad,hb⟩
     refine⟨_,rfl,?_⟩
     have aJ:=am (Kd.R_lower ad (below_size bel))
     replace q:=rb q hb
     replace x:=rb x hb
     replace a:=b1 a hb
     replace d:=b1 d hb
     replace j:=b1 j hb
     replace HB:=b2 hb
     (try clear hb)
     (try clear hk)
     (try clear ad)
     obtain⟨gr,gF,dI⟩:=Kd.R_slice aJ.out
     (first|subst dI|(injection dI with f1_ f2_ f3_;have bP:=f1_.symm;have bQ:=f3_.symm;clear f1_ f2_ f3_;subst bP;subst bQ))
     refine hK.out _ _ ⟨qc j 0,qc j 1,qc a 0,qc a 1,qc a 2,qc a 3,qc a 4,qc a 5,qc a 6,qc a 7,qc a 8⟩ (fun hHeld=>?_)
     clear hK K
     refine nm 47 ?_
     refine pu HT_ 6 48 (lb 9 127) ?_
     refine pu HT_ 7 49 (lb 9 255) ?_
     refine pu HT_ 8 50 (lb 9 511) ?_
     refine done_ (done_of HT_.out (by kernel_rfl)) ?_
     try go_wp2_with (first|((with_reducible refine gd 15 ?_);refine by_ w 15 #[.bool false,.slice none 0 0,.slice none 0 0] 43 ?_;clear HB;intro dJ hg hc X gx hb HB;obtain⟨fc,bf⟩:=qn hg a;obtain⟨fd,bg⟩:=qn hg d;obtain⟨fe,bh⟩:=qn hg j;replace q:=rb q hb;replace x:=rb x hb;replace aJ:=rb aJ hb;replace a:=b1 a hb;replace d:=b1 d hb;replace j:=b1 j hb;clear hb hg;obtain⟨_,_⟩:=qo bf;obtain⟨_,_⟩:=qo bg;obtain⟨_,_⟩:=qo bh;obtain⟨cy,cz,cA,de,df,dg⟩:=cf3 X.out;obtain⟨cB,cC,dh,di⟩:=cf2 j.out)|((with_reducible refine gate_callee (f:=44) rfl ?_);refine goesL_ (some 104) rfl rfl Tryz.func44 (by kernel_rfl) rfl #[.agg #[.int .i64 Z,.slice bc A.length a0],.int .i64 0,.slice du W.length b7] rfl ga ?_;(with_reducible refine(impl_SourceSide.calls k Z _ _ A 0 _ _ W bM _ ?side1 ?side2 ?side3 ?side4 fK.out).mono ?_);(case side1=>refine(Kd.R_reads' (e:=71) (base:=w.heap.size) (ok:=fun k_=>True) (n:=A.length) (c:=a0) ?_).2.2;exact(kf (Kd.R_types q.out X.out (by decide)) (fun _ h_=>h_.1)));(case side2=>exact(Kd.R_reads' q.out).2.1);(case side3=>refine(Kd.R_reads' (e:=3) (base:=w.heap.size) (ok:=fun k_=>True) (n:=W.length) (c:=b7) ?_).2.2;exact(kf (Kd.R_types x.out X.out (by decide)) (fun _ h_=>h_.1)));(case side4=>exact(Kd.R_reads' x.out).2.1);rintro e he ⟨gf,rfl,ad,hb⟩;refine⟨_,rfl,?_⟩;have e8:=am (Kd.R_lower ad (below_size bel));replace q:=am (Kd.R_below (kf (Kd.R_types q.out X.out (by decide)) (fun _ h_=>h_.1)) hb);replace x:=am (Kd.R_below (kf (Kd.R_types x.out X.out (by decide)) (fun _ h_=>h_.1)) hb);replace aJ:=am (Kd.R_below (kf (Kd.R_types aJ.out X.out (by decide)) (fun _ h_=>h_.1)) hb);replace a:=b1 a hb;replace d:=b1 d hb;replace j:=b1 j hb;replace X:=bq X hb;replace HB:=b2 hb;(try clear hb);(try clear ad);obtain⟨cD,cE,cF,cG,cH,cI,cJ,cK,cL,dj,dk,dl,dm,dn,dp,dq,dr,dt⟩:=cf9 a.out))
     go_loopg [108] k (fun kq gb w'=>∃(aI:Int) (ag:List Int) (u799002:Value),gb=.int .i64 aI∧Aside0 (impl_LeadVerdict.l1 kq bM (B.length:Int) aI false ag=some (r1,r2,r3,r4))∧Aside0 (kq≤k)∧Aside0 (Kd.R Kd.bool 4 w' w.heap.size (fun _=>True) gf bM)∧Aside0 (Kd.R k71 71 w' w.heap.size (fun _=>True) (.slice bc A.length a0) A)∧Aside0 (Kd.R (Kd.int .i64) 3 w' w.heap.size (fun _=>True) u799002 ag)∧Aside0 (w'.heap[z]? =some (.cells #[(.slice aj B.length ao),.int .i64 O,.int .i64 P,.int .i64 T,(.slice ak E.length ap),.bool U,(.slice aW s.length aq),(.slice al G.length ar),(.slice an I.length au)] 35 (0,0)))∧Aside0 (w'.heap[ac]? =some (.cells #[.bool false,(.slice none 0 0),(.slice none 0 0)] 43 (0,0)))∧Aside0 (w'.heap[ai]? =some (.cells #[.int .i64 Z,(.slice bc A.length a0)] 65 (0,0)))∧Aside0 (w'.heap[dJ]? =some (.cells #[.bool false,(.slice none 0 0),u799002] 43 (0,0)))∧Aside0 (Below w.heap.size w w'))
     case atStart=>exact⟨(0),(([]:List Int)),(.slice none 0 0),(es),H,⟨Nat.le_refl _⟩,⟨rk e8.out⟩,⟨rk q.out⟩,⟨qk⟩,⟨bk a.out⟩,⟨bk d.out⟩,⟨bk j.out⟩,⟨bk X.out⟩,⟨bel⟩⟩
     case round=>
      clear H
      try clear fQ;try clear bC;try clear bD;try clear b9;try clear ca;try clear cc;try clear cd;try clear ce;try clear cf;try clear cg;try clear ch;try clear ci;try clear cj;try clear cn;try clear co;try clear cp;try clear cq;try clear cs;try clear ct;try clear cu;try clear cv;try clear cw;try clear cx;try clear cy;try clear cz;try clear cA;try clear cB;try clear cC;try clear cD;try clear cE;try clear cF;try clear cG;try clear cH;try clear cI;try clear cJ;try clear cK;try clear cL;try clear cM;try clear cN;try clear cO;try clear cP;try clear cQ;try clear cR;try clear cS;try clear cT;try clear cU;try clear cV;try clear cW;try clear cX;try clear cY;try clear cZ;try clear c0;try clear c1;try clear da;try clear db;try clear dc;try clear dd;try clear de;try clear df;try clear dg;try clear dh;try clear di;try clear dj;try clear dk;try clear dl;try clear dm;try clear dn;try clear dp;try clear dq;try clear dr;try clear dt
      obtain⟨aI,ag,u799002,rfl,HA,bE,aY,p,J,a,d,j,X,HB⟩:=hrel
      cases gk with
      |zero=>exact absurd HA.out (by simp [impl_LeadVerdict.l1])
      |succ k1=>
       have H:=HA.out
       clear HA
       simp only[impl_LeadVerdict.l1]at H
       replace H:=i1 H;obtain⟨eQ,H⟩|⟨eQ,H⟩:=H
       ·obtain⟨a7,a3⟩:∃j_:Int,(wrap64 (2+aI))=j_:=⟨_,rfl⟩
        (first|rw[a3]at H|simp only[a3]at H)
        have f9:(IntKind.i64.wrap (2+aI))=a7:=(i64_w _).trans a3
        (try rw[a3]at bC)
        (try rw[a3]at bD)
        (try rw[a3]at bC)
        (try rw[a3]at bD)
        replace H:=i0 H;obtain⟨gm,H⟩:=H
        replace H:=i0 H;obtain⟨gn,H⟩:=H
        generalize hbq154:(rdOf false bM (a7))=gy at H
        have b8:=am hbq154.symm
        clear hbq154
        replace H:=ib H;obtain⟨rfl,H⟩|⟨rfl,H⟩:=H
        ·replace H:=i0 H;obtain⟨eR,H⟩:=H
         have eP:=am (of_decide_eq_true eR)
         clear eR
         generalize hy803:(ag++[aI]:List Int)=e1 at H
         have fi:=am hy803.symm
         clear hy803
         replace H:=am H
         obtain⟨gt,gG,fv⟩:=Kd.R_slice aY.out
         subst fv
         have:(0≤((a7):Int))=True:=ab
         have:((a7)<(bM.length:Int))=True:=ab
         obtain⟨fj,dF,bJ⟩:=Kd.at_bool (Kd.R_reads' aY.out).2.2 (a7) asm asm
         (try rw[←b8.out]at bJ)
         cases dF
         obtain⟨_,_⟩:=qo bf
         obtain⟨_,_⟩:=qo bg
         obtain⟨_,_⟩:=qo bh
         obtain⟨_,_,_,_,_,_⟩:=cf3 X.out
         go_wp2_with (first|((with_reducible refine gate_builtin (b:=.append) (xs:=#[.tmp 117,.tmp 119]) rfl ?_);at_builtin;refine Kd.R_append (Kd.int .i64) (w0:=w) w.heap.size rfl (.tmp 117) (.tmp 119) 23 3 (.int .i64 0) 8 rfl Tryz.underlying23 info3 rfl (by decide) (by omega) u799002 ag aI [.int .i64 aI] (fun _=>True) (fun _=>False) rfl rfl ?aP (fun _ hk=>hk.elim) ?aF ?aO ?aB ?aS ?aL ?_;(case aP=>exact rfl);(case aB=>exact bel);(case aF=>exact(fun _ _=>trivial));(case aO=>exact(rk J.out));(case aS=>exact(below_size bel));(case aL=>have:=eP.out;omega);intro g1 hf ho hb hg hat;rw[←fi.out]at ho;have bj:=am (Kd.R_over' (rk aY.out) (Kd.R_typed (rk J.out)) (by decide) hg);have bl:=am (Kd.R_over' (rk p.out) (Kd.R_typed (rk J.out)) (by decide) hg);have bn:=am (blk_grown (g:=z) (o:=.cells #[.slice aj B.length ao,.int .i64 O,.int .i64 P,.int .i64 T,.slice ak E.length ap,.bool U,.slice aW s.length aq,.slice al G.length ar,.slice an I.length au] 35 (0,0)) (bk a.out) hg (Kd.R_ne J.out a.out (by decide)));have bo:=am (blk_grown (g:=ac) (o:=.cells #[.bool false,.slice none 0 0,.slice none 0 0] 43 (0,0)) (bk d.out) hg (Kd.R_ne J.out d.out (by decide)));have bp:=am (blk_grown (g:=ai) (o:=.cells #[.int .i64 Z,.slice bc A.length a0] 65 (0,0)) (bk j.out) hg (Kd.R_ne J.out j.out (by decide)));have br:=am (blk_grown (g:=dJ) (o:=.cells #[.bool false,.slice none 0 0,u799002] 43 (0,0)) (bk X.out) hg (Kd.R_ne J.out X.out (by decide)));have bu:=am (hb);have bw:=am (ho);clear aY;clear p;clear a;clear d;clear j;clear X;clear HB;clear J;have aY:=bj;have p:=bl;have a:=bn;have d:=bo;have j:=bp;have X:=br;have HB:=bu;have dC:=bw;clear bj bl bn bo bp br bu bw;clear ho hb hg hat;obtain⟨e5,fr,fw⟩:=Kd.R_slice dC.out;subst fw;obtain⟨_,_,_,_,_,_⟩:=cf3 X.out))
         go_roundg k1
         case measure=>have:=bE.out;omega
         case rel=>exact⟨(wrap64 (aI+1)),(e1),(.slice e5 e1.length fr),(es),H,⟨by have:=bE.out;omega⟩,⟨(kf (Kd.R_types aY.out X.out (by decide)) (fun _ hk=>trivial))⟩,⟨(kf (Kd.R_types p.out X.out (by decide)) (fun _ hk=>trivial))⟩,⟨(kf (Kd.R_types dC.out X.out (by decide)) (fun _ hk=>trivial))⟩,⟨bk a.out⟩,⟨bk d.out⟩,⟨bk j.out⟩,⟨(bz X)⟩,⟨bel⟩⟩
        ·replace H:=am H
         obtain⟨gu,gH,fx⟩:=Kd.R_slice aY.out
         subst fx
         have:(0≤((a7):Int))=True:=ab
         have:((a7)<(bM.length:Int))=True:=ab
         obtain⟨fj,dF,bJ⟩:=Kd.at_bool (Kd.R_reads' aY.out).2.2 (a7) asm asm
         (try rw[←b8.out]at bJ)
         cases dF
         go_wp2
         go_roundg k1
         case measure=>have:=bE.out;omega
         case rel=>exact⟨(wrap64 (aI+1)),(ag),(u799002),(es),H,⟨by have:=bE.out;omega⟩,⟨rk aY.out⟩,⟨rk p.out⟩,⟨rk J.out⟩,⟨bk a.out⟩,⟨bk d.out⟩,⟨bk j.out⟩,⟨bk X.out⟩,⟨bel⟩⟩
       ·obtain⟨rfl,rfl,rfl,rfl⟩:=qj4 H
        obtain⟨_,_⟩:=qo bf
        obtain⟨_,_⟩:=qo bg
        obtain⟨_,_⟩:=qo bh
        obtain⟨_,_,_,_,_,_⟩:=cf3 X.out
        obtain⟨_,_⟩:=qo aG
        obtain⟨_,_⟩:=qo aK
        obtain⟨_,_,_,_,_,_⟩:=cf3 d.out
        obtain⟨e6,fs,fy⟩:=Kd.R_slice J.out
        subst fy
        go_wp2
        refine bodyPost_ret (results_ct rfl _ _ ac 43 #[.bool false,.slice none 0 0,.slice e6 ag.length fs] (0,0) _ rfl (bz d) Tryz.underlying43 rfl (by kernel_rfl)) rfl ?_
        exact⟨_,_,er,qk,(kf (Kd.R_types J.out d.out (by decide)) (fun _ hk=>(by simp [Value.ownBlock]))),bel⟩
   ·obtain⟨rfl,rfl,rfl,rfl⟩:=qj4 H
    go_enter Tryz.func15,Tryz.ntmps15
    go_wp2_with (first|((with_reducible refine gd 2 ?_);refine bx w 2 #[.slice aj B.length ao,.int .i64 O,.int .i64 P,.int .i64 T,.slice ak E.length ap,.bool U,.slice aW s.length aq,.slice al G.length ar,.slice an I.length au] 35 ?_;clear HB;intro z hh a bN HB)|((with_reducible refine gd 4 ?_);refine by_ w 4 #[.bool false,.slice none 0 0,.slice none 0 0] 43 ?_;clear HB;intro ac hg hi d bO hb HB;obtain⟨D,aG⟩:=qn hg a;replace a:=b1 a hb;clear hb hg;obtain⟨_,_⟩:=qo D;obtain⟨_,_,_,_,_,_,_,_,_,_,_,_,_,_,_,_,_,_⟩:=cf9 a.out)|((with_reducible refine gc 38 ?_);refine gl 20 Tryz.func38 (impl_isLead.calls k _ _ B O P T _ _ E U _ _ s _ _ G _ _ I a1 true _ (cb az HB) av.out (cb aA HB) aw.out (cb aa HB) ah.out (cb aC HB) ax.out (cb aD HB) ay.out A3.out) ?_;rintro e hj ⟨rfl,hb⟩;refine⟨_,rfl,?_⟩;replace a:=b1 a hb;replace d:=b1 d hb;replace HB:=b2 hb;(try clear hb);obtain⟨_,_,_,_,_,_,_,_,_,_,_,_,_,_,_,_,_,_⟩:=cf9 a.out)|((with_reducible refine gc 39 ?_);refine gl 26 Tryz.func39 (impl_leadNet.calls k _ _ B O P T _ _ E U _ _ s _ _ G _ _ I a1 Z A bA _ (cb az HB) av.out (cb aA HB) aw.out (cb aa HB) ah.out (cb aC HB) ax.out (cb aD HB) ay.out A5.out) ?_;rintro e hl ⟨eO,rfl,ad,hb⟩;refine⟨_,rfl,?_⟩;have q:=am (Kd.R_lower ad (below_size bel));replace a:=b1 a hb;replace d:=b1 d hb;replace HB:=b2 hb;(try clear hb);(try clear ad))|((with_reducible refine gd 6 ?_);refine by_ w 6 #[.int .i64 0,.slice none 0 0] 65 ?_;clear HB;intro ai hg hn j b3 hb HB;obtain⟨aE,ae⟩:=qn hg a;obtain⟨aK,af⟩:=qn hg d;replace q:=rb q hb;replace a:=b1 a hb;replace d:=b1 d hb;clear hb hg;obtain⟨_,_⟩:=qo ae;obtain⟨_,_⟩:=qo af;obtain⟨_,_,_,_⟩:=cf2 j.out;obtain⟨e7,dE,fz⟩:=Kd.R_slice q.out;subst fz)|((with_reducible refine gate_callee (f:=40) rfl ?_);refine goesL_ (some 36) rfl rfl Tryz.func40 (by kernel_rfl) rfl #[.agg #[.int .i64 Z,.slice e7 A.length dE],.int .i64 0,.int .i64 1] rfl ga ?_;(with_reducible refine(impl_GreatestFlow.calls k Z _ _ A 0 1 W false _ ?side1 ?side2 e2.out).mono ?_);(case side1=>refine(Kd.R_reads' (e:=71) (base:=w.heap.size) (ok:=fun k_=>True) (n:=A.length) (c:=dE) ?_).2.2;exact(kf (Kd.R_types q.out j.out (by decide)) (fun _ h_=>h_.1)));(case side2=>exact(Kd.R_reads' q.out).2.1);rintro e hq ⟨eX,rfl,ad,hb⟩;refine⟨_,rfl,?_⟩;have x:=am (Kd.R_lower ad (below_size bel));replace q:=am (Kd.R_below (kf (Kd.R_types q.out j.out (by decide)) (fun _ h_=>h_.1)) hb);replace a:=b1 a hb;replace d:=b1 d hb;replace j:=bq j hb;replace HB:=b2 hb;(try clear hb);(try clear ad);obtain⟨_,_,_,_,_,_⟩:=cf3 d.out))
    refine bodyPost_ret (results_ct rfl _ _ ac 43 #[.bool false,.slice none 0 0,.slice none 0 0] (0,0) _ rfl (bz d) Tryz.underlying43 rfl (by kernel_rfl)) rfl ?_
    exact⟨_,_,er,qk,qk,bel⟩
 ·obtain⟨rfl,rfl,rfl,rfl⟩:=qj4 H
  go_enter Tryz.func15,Tryz.ntmps15
  go_wp2_with (first|((with_reducible refine gd 2 ?_);refine bx w 2 #[.slice aj B.length ao,.int .i64 O,.int .i64 P,.int .i64 T,.slice ak E.length ap,.bool U,.slice aW s.length aq,.slice al G.length ar,.slice an I.length au] 35 ?_;clear HB;intro z hs a bN HB)|((with_reducible refine gd 4 ?_);refine by_ w 4 #[.bool false,.slice none 0 0,.slice none 0 0] 43 ?_;clear HB;intro ac hg ht d bO hb HB;obtain⟨D,aG⟩:=qn hg a;replace a:=b1 a hb;clear hb hg;obtain⟨_,_⟩:=qo D;obtain⟨_,_,_,_,_,_,_,_,_,_,_,_,_,_,_,_,_,_⟩:=cf9 a.out)|((with_reducible refine gc 38 ?_);refine gl 20 Tryz.func38 (impl_isLead.calls k _ _ B O P T _ _ E U _ _ s _ _ G _ _ I a1 false _ (cb az HB) av.out (cb aA HB) aw.out (cb aa HB) ah.out (cb aC HB) ax.out (cb aD HB) ay.out A3.out) ?_;rintro e hu ⟨rfl,hb⟩;refine⟨_,rfl,?_⟩;replace a:=b1 a hb;replace d:=b1 d hb;replace HB:=b2 hb;(try clear hb);obtain⟨_,_,_,_,_,_⟩:=cf3 d.out))
  refine bodyPost_ret (results_ct rfl _ _ ac 43 #[.bool false,.slice none 0 0,.slice none 0 0] (0,0) _ rfl (bz d) Tryz.underlying43 rfl (by kernel_rfl)) rfl ?_
  exact⟨_,_,er,qk,qk,bel⟩
end Go.Proofs.YtgalpgakdcfilaaGreat.L
