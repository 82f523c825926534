-- Written by a program of this session (wip/xp.py).
import Derived.Test.YtgalpgakdcfilaaGreatL0
import Derived.Test.YtgalpgakdcfilaaGreatL21
import Derived.Test.YtgalpgakdcfilaaGreatL27
import Derived.Test.YtgalpgakdcfilaaGreatL31
import Derived.Test.YtgalpgakdcfilaaGreatL33
namespace Go.Proofs.YtgalpgakdcfilaaGreat.L
open Go.RowKit Go.Proofs.YtgalpgakdcfilaaGreatW.PrintWords Go.Proofs.YtgalpgakdcfilaaGreatW.PrintLast Go.Proofs.YtgalpgakdcfilaaGreatW.PrintMore
attribute [local go_sem] max2_int min2_int max_two min_two max_three min_three max_four min_four
set_option linter.unusedVariables false
set_option linter.unusedSimpArgs false
set_option maxHeartbeats 8000000
set_option maxRecDepth 100000
mutual
def spec_LeadVerdict.l0:Nat→Int→List Int→Bool→List (S71)→Int→Int→List (S83)→Int→Int→Int→List Int→Bool→List (S79)→List Int→List Int→Int→List (S71)→Option (Bool×List Int×List Int×Bool)
  |0,_,_,_,_,_,_,_,_,_,_,_,_,_,_,_,_,_=>none
  |k+1,x1,x8,s,o,p,n,a,b,c,d,e,g,h,i,j,l,m=>if n<p then(if 0≤n then(if n<(o.length:Int)then(if s=true then(if((rd_T71 o n).f0)=0 then(if n<(x8.length:Int)then(spec_LeadVerdict.l0 k x1 x8 ((rd x8 n)==((rd_T71 o n).f2)) o p (wrap64 (n+1)) a b c d e g h i j l m)else(none))else(spec_LeadVerdict.l0 k x1 x8 true o p (wrap64 (n+1)) a b c d e g h i j l m))else(spec_LeadVerdict.l0 k x1 x8 false o p (wrap64 (n+1)) a b c d e g h i j l m))else(none))else(none))else(if s=true then((spec_l18Results.f k a b c d e g h i j x1 x8).bind fun q=>(some (true,q,([]:List Int),true)))else((spec_SourceSide.f k l m 0 x8).bind fun r=>(spec_LeadVerdict.l1 k r (a.length:Int) 0 false ([]:List Int))))
def spec_LeadVerdict.l1:Nat→List Bool→Int→Int→Bool→List Int→Option (Bool×List Int×List Int×Bool)
  |0,_,_,_,_,_=>none
  |k+1,d,e,c,b,a=>if c<e then(if 0≤(wrap64 (2+c))then(if(wrap64 (2+c))<(d.length:Int)then(if rdOf false d (wrap64 (2+c))=true then(if a.length<17592186044416 then(spec_LeadVerdict.l1 k d e (wrap64 (c+1)) b (a++[c]))else(none))else(spec_LeadVerdict.l1 k d e (wrap64 (c+1)) b a))else(none))else(none))else(some (b,([]:List Int),a,true))
end
def spec_LeadVerdict.f(k:Nat)(h:List (S83))(b:Int)(c:Int)(d:Int)(i:List Int)(e:Bool)(j:List (S79))(l:List Int)(m:List Int)(a1:Int):Option (Bool×List Int×List Int×Bool):=(spec_l18Ok.f k h b c d i e j l m a1).bind fun n=>(if n=true then((spec_l18Net.f k h b c d i e j l m a1).bind fun a=>(if a.2.2≥0 then(some (false,([]:List Int),(([a.2.2]:List Int)),true))else((spec_GreatestFlow.f k a.1 a.2.1 0 1).bind fun g=>(if g.2=true then(spec_LeadVerdict.l0 k a1 g.1 true a.2.1 (a.2.1.length:Int) 0 h b c d i e j l m a.1 a.2.1)else(some (false,([]:List Int),([]:List Int),false))))))else(some (false,([]:List Int),([]:List Int),false)))
theorem spec_LeadVerdict.calls(k:Nat)(az:Option Addr)(aG:Nat)(u:List (S83))(D:Int)(E:Int)(G:Int)(aA:Option Addr)(aH:Nat)(x:List Int)(I:Bool)(aC:Option Addr)(aI:Nat)(y:List (S79))(aD:Option Addr)(aJ:Nat)(z:List Int)(aE:Option Addr)(aK:Nat)(A:List Int)(a1:Int)(r1:Bool)(r2:List Int)(r3:List Int)(r4:Bool)(w:World)(U:Kd.C k83 w az u.length u)(K:u.length≤aG)(W:Kd.C (Kd.int .i64) w aA x.length x)(L:x.length≤aH)(X:Kd.C k79 w aC y.length y)(O:y.length≤aI)(Y:Kd.C (Kd.int .i64) w aD z.length z)(P:z.length≤aJ)(Z:Kd.C (Kd.int .i64) w aE A.length A)(T:A.length≤aK)(h:spec_LeadVerdict.f k u D E G x I y z A a1=some (r1,r2,r3,r4)):Calls Tryz.prog 14 #[.agg #[.slice az u.length aG,.int .i64 D,.int .i64 E,.int .i64 G,.slice aA x.length aH,.bool I,.slice aC y.length aI,.slice aD z.length aJ,.slice aE A.length aK],.int .i64 a1] w fun e w'=>∃ei ej:Value,e=.returned (.tuple #[.agg #[.bool r1,ei,ej],.bool r4])∧Kd.R (Kd.int .i64) 3 w' w.heap.size (fun k_=>some k_≠(ej:Value).ownBlock) ei r2∧Kd.R (Kd.int .i64) 3 w' w.heap.size (fun k_=>some k_≠(ei:Value).ownBlock) ej r3∧Below w.heap.size w w':=by
 have g2:=Tryz.underlying35
 have g3:=Tryz.underlying43
 have g4:=Tryz.underlying65
 have g5:=Tryz.underlying71
 replace U:=am U
 replace K:=am K
 replace W:=am W
 replace L:=am L
 replace X:=am X
 replace O:=am O
 replace Y:=am Y
 replace P:=am P
 replace Z:=am Z
 replace T:=am T
 have HB:=qb w
 have H:=h
 unfold spec_LeadVerdict.f at H
 clear h
 replace H:=bm H;obtain⟨g6,A3,H⟩:=H
 replace H:=ib H;obtain⟨rfl,H⟩|⟨rfl,H⟩:=H
 ·replace H:=bm H;obtain⟨⟨af,m,au⟩,A5,H⟩:=H;dsimp only at H
  replace H:=i1 H;obtain⟨cU,H⟩|⟨cU,H⟩:=H
  ·generalize hy531:(([au]:List Int))=gu at H
   have cR:=am hy531.symm
   clear hy531
   obtain⟨rfl,rfl,rfl,rfl⟩:=qj4 H
   go_enter Tryz.func14,Tryz.ntmps14
   go_wp2_with (first|((with_reducible refine gd 2 ?_);refine bx w 2 #[.slice az u.length aG,.int .i64 D,.int .i64 E,.int .i64 G,.slice aA x.length aH,.bool I,.slice aC y.length aI,.slice aD z.length aJ,.slice aE A.length aK] 35 ?_;clear HB;intro aR w7 a b7 HB)|((with_reducible refine gd 4 ?_);refine by_ w 4 #[.bool false,.slice none 0 0,.slice none 0 0] 43 ?_;clear HB;intro al hg w8 d b8 hb HB;obtain⟨J,aq⟩:=qn hg a;replace a:=b1 a hb;clear hb hg;obtain⟨_,_⟩:=qo J;obtain⟨fh,fi,fj,fk,fl,fm,fn,fo,fp,fH,fI,fJ,fK,fL,fM,fN,fO,fP⟩:=cf9 a.out)|(go_at_call 33;refine cm2 (spec_l18Ok.calls k _ _ u D E G _ _ x I _ _ y _ _ z _ _ A a1 true _ (cb U HB) K.out (cb W HB) L.out (cb X HB) O.out (cb Y HB) P.out (cb Z HB) T.out A3.out) ?_;intro gH hb;replace a:=b1 a hb;replace d:=b1 d hb;replace HB:=b2 hb;clear hb;obtain⟨cZ,c0,c1,da,db,dc,dd,de,df,dy,dz,dA,dB,dC,dD,dE,dF,dG⟩:=cf9 a.out)|(go_at_call 34;refine cm (spec_l18Net.calls k _ _ u D E G _ _ x I _ _ y _ _ z _ _ A a1 af m au _ (cb U HB) K.out (cb W HB) L.out (cb X HB) O.out (cb Y HB) P.out (cb Z HB) T.out A5.out) ?_;rintro e gI ⟨b6,rfl,B,hb⟩;have r:=am (Kd.R_lower B (below_size bel));replace a:=b1 a hb;replace d:=b1 d hb;replace HB:=b2 hb;clear hb;(try clear B))|((with_reducible refine gd 6 ?_);refine by_ w 6 #[.int .i64 0,.slice none 0 0] 65 ?_;clear HB;intro aY hg hj j cM hb HB;obtain⟨av,ad⟩:=qn hg a;obtain⟨ah,ae⟩:=qn hg d;replace r:=rb r hb;replace a:=b1 a hb;replace d:=b1 d hb;clear hb hg;obtain⟨_,_⟩:=qo ad;obtain⟨_,_⟩:=qo ae;obtain⟨fq,fr,fQ,fR⟩:=cf2 j.out;obtain⟨gP,gW,e8⟩:=Kd.R_slice r.out;subst e8)|((with_reducible refine gate_dst (N:=30) rfl ?_);refine Kd.R_lit (Kd.int .i64) _ 3 ?hg (N:=30) ?hd (xs:=([au]:List Int)) (inner:=[.int .i64 au]) (ok:=fun _=>True) (okp:=fun _=>True) ?hr ?hp (fun _ hk=>hk) trivial (Below.refl _ _) (Nat.le_refl _) (by simp) ?_;(case hd=>rfl);(case hg=>rfl);(case hr=>first|(go_simp;done)|(go_simp;rfl));(case hp=>exact(Reps.one (show Kd.M (Kd.int .i64) _ _ _ au [.int .i64 au]from rfl) (Reps.none _ _)));intro g8 hl b0 hb hg_ hnew_;clear hg_ hnew_;(first|rw[←cR.out]at b0|(simp only[Int.reduceToNat]at b0;rw[←cR.out]at b0));have cO:=am (Kd.R_lower b0 (below_size bel));replace r:=am (Kd.R_below (kf (Kd.R_types r.out j.out (by decide)) (fun _ h_=>h_.1)) hb);replace a:=b1 a hb;replace d:=b1 d hb;replace j:=bq j hb;replace HB:=b2 hb;clear hb b0;obtain⟨e2,e5,e9⟩:=Kd.R_slice cO.out;subst e9;obtain⟨fs,ft,fu,fS,fT,fU⟩:=cf3 d.out)|go_quiet (first|(go_at_call 33;refine cm2 (spec_l18Ok.calls k _ _ u D E G _ _ x I _ _ y _ _ z _ _ A a1 true _ (cb U HB) K.out (cb W HB) L.out (cb X HB) O.out (cb Y HB) P.out (cb Z HB) T.out A3.out) ?_;intro gH hb;replace a:=b1 a hb;replace d:=b1 d hb;replace HB:=b2 hb;clear hb;obtain⟨cZ,c0,c1,da,db,dc,dd,de,df,dy,dz,dA,dB,dC,dD,dE,dF,dG⟩:=cf9 a.out)|(go_at_call 34;refine cm (spec_l18Net.calls k _ _ u D E G _ _ x I _ _ y _ _ z _ _ A a1 af m au _ (cb U HB) K.out (cb W HB) L.out (cb X HB) O.out (cb Y HB) P.out (cb Z HB) T.out A5.out) ?_;rintro e gI ⟨b6,rfl,B,hb⟩;have r:=am (Kd.R_lower B (below_size bel));replace a:=b1 a hb;replace d:=b1 d hb;replace HB:=b2 hb;clear hb;(try clear B))))
   refine bodyPost_ret (results_ct rfl _ _ al 43 #[.bool false,.slice none 0 0,.slice e2 gu.length e5] (0,0) _ rfl (bz d) Tryz.underlying43 rfl (by kernel_rfl)) rfl ?_
   exact⟨_,_,er,qk,(kf (Kd.R_types cO.out d.out (by decide)) (fun _ hk=>(by simp [Value.ownBlock]))),bel⟩
  ·replace H:=bm H;obtain⟨⟨ar,g7⟩,dZ,H⟩:=H;dsimp only at H
   replace H:=ib H;obtain⟨rfl,H⟩|⟨rfl,H⟩:=H
   ·replace H:=am H
    go_enter Tryz.func14,Tryz.ntmps14
    go_wp2_with (first|((with_reducible refine gd 2 ?_);refine bx w 2 #[.slice az u.length aG,.int .i64 D,.int .i64 E,.int .i64 G,.slice aA x.length aH,.bool I,.slice aC y.length aI,.slice aD z.length aJ,.slice aE A.length aK] 35 ?_;clear HB;intro aR hn a b7 HB)|((with_reducible refine gd 4 ?_);refine by_ w 4 #[.bool false,.slice none 0 0,.slice none 0 0] 43 ?_;clear HB;intro al hg hq d b8 hb HB;obtain⟨J,aq⟩:=qn hg a;replace a:=b1 a hb;clear hb hg;obtain⟨_,_⟩:=qo J;obtain⟨bE,bF,bG,bH,bI,bJ,bK,bL,bM,bP,bQ,bR,bS,bT,bU,bV,bW,bX⟩:=cf9 a.out)|(go_at_call 33;refine cm2 (spec_l18Ok.calls k _ _ u D E G _ _ x I _ _ y _ _ z _ _ A a1 true _ (cb U HB) K.out (cb W HB) L.out (cb X HB) O.out (cb Y HB) P.out (cb Z HB) T.out A3.out) ?_;intro gJ hb;replace a:=b1 a hb;replace d:=b1 d hb;replace HB:=b2 hb;clear hb;obtain⟨aZ,a0,a2,a3,a4,a5,a6,a7,a8,bc,bd,be,bf,bg,bh,bi,bj,bl⟩:=cf9 a.out)|(go_at_call 34;refine cm (spec_l18Net.calls k _ _ u D E G _ _ x I _ _ y _ _ z _ _ A a1 af m au _ (cb U HB) K.out (cb W HB) L.out (cb X HB) O.out (cb Y HB) P.out (cb Z HB) T.out A5.out) ?_;rintro e gK ⟨b6,rfl,B,hb⟩;have r:=am (Kd.R_lower B (below_size bel));replace a:=b1 a hb;replace d:=b1 d hb;replace HB:=b2 hb;clear hb;(try clear B))|((with_reducible refine gd 6 ?_);refine by_ w 6 #[.int .i64 0,.slice none 0 0] 65 ?_;clear HB;intro aY hg hs j cM hb HB;obtain⟨av,ad⟩:=qn hg a;obtain⟨ah,ae⟩:=qn hg d;replace r:=rb r hb;replace a:=b1 a hb;replace d:=b1 d hb;clear hb hg;obtain⟨_,_⟩:=qo ad;obtain⟨_,_⟩:=qo ae;obtain⟨bN,bO,bY,bZ⟩:=cf2 j.out;obtain⟨bw,aT,fa⟩:=Kd.R_slice r.out;subst fa)|(go_at_call 35;(with_reducible refine(spec_GreatestFlow.calls k af _ _ m 0 1 ar true _ ?side1 ?side2 dZ.out).mono ?_);(case side1=>refine(Kd.R_reads' (e:=71) (base:=w.heap.size) (ok:=fun k_=>True) (n:=m.length) (c:=aT) ?_).2.2;exact(kf (Kd.R_types r.out j.out (by decide)) (fun _ h_=>h_.1)));(case side2=>exact(Kd.R_reads' r.out).2.1);rintro e gL ⟨cd,rfl,B,hb⟩;have bA:=am (Kd.R_lower B (below_size bel));replace r:=am (Kd.R_below (kf (Kd.R_types r.out j.out (by decide)) (fun _ h_=>h_.1)) hb);replace a:=b1 a hb;replace d:=b1 d hb;replace j:=bq j hb;replace HB:=b2 hb;(try clear hb);(try clear hk);(try clear B);obtain⟨a9,ba,bn,bo⟩:=cf2 j.out)|go_quiet (first|(go_at_call 33;refine cm2 (spec_l18Ok.calls k _ _ u D E G _ _ x I _ _ y _ _ z _ _ A a1 true _ (cb U HB) K.out (cb W HB) L.out (cb X HB) O.out (cb Y HB) P.out (cb Z HB) T.out A3.out) ?_;intro gJ hb;replace a:=b1 a hb;replace d:=b1 d hb;replace HB:=b2 hb;clear hb;obtain⟨aZ,a0,a2,a3,a4,a5,a6,a7,a8,bc,bd,be,bf,bg,bh,bi,bj,bl⟩:=cf9 a.out)|(go_at_call 34;refine cm (spec_l18Net.calls k _ _ u D E G _ _ x I _ _ y _ _ z _ _ A a1 af m au _ (cb U HB) K.out (cb W HB) L.out (cb X HB) O.out (cb Y HB) P.out (cb Z HB) T.out A5.out) ?_;rintro e gK ⟨b6,rfl,B,hb⟩;have r:=am (Kd.R_lower B (below_size bel));replace a:=b1 a hb;replace d:=b1 d hb;replace HB:=b2 hb;clear hb;(try clear B))|(go_at_call 35;(with_reducible refine(spec_GreatestFlow.calls k af _ _ m 0 1 ar true _ ?side1 ?side2 dZ.out).mono ?_);(case side1=>refine(Kd.R_reads' (e:=71) (base:=w.heap.size) (ok:=fun k_=>True) (n:=m.length) (c:=aT) ?_).2.2;exact(kf (Kd.R_types r.out j.out (by decide)) (fun _ h_=>h_.1)));(case side2=>exact(Kd.R_reads' r.out).2.1);rintro e gL ⟨cd,rfl,B,hb⟩;have bA:=am (Kd.R_lower B (below_size bel));replace r:=am (Kd.R_below (kf (Kd.R_types r.out j.out (by decide)) (fun _ h_=>h_.1)) hb);replace a:=b1 a hb;replace d:=b1 d hb;replace j:=bq j hb;replace HB:=b2 hb;(try clear hb);(try clear hk);(try clear B);obtain⟨a9,ba,bn,bo⟩:=cf2 j.out)))
    go_loopg [10,43] k (fun kq gE gF w'=>∃(cc:Bool) (l:Int),gE=.bool cc∧gF=.int .i64 l∧Aside0 (spec_LeadVerdict.l0 kq a1 ar cc m (m.length:Int) l u D E G x I y z A af m=some (r1,r2,r3,r4))∧Aside0 (kq≤k)∧Aside0 (Kd.R (Kd.int .i64) 3 w' w.heap.size (fun _=>True) cd ar)∧Aside0 (Kd.R k71 71 w' w.heap.size (fun _=>True) (.slice bw m.length aT) m)∧Aside0 (Kd.R k71 71 w' w.heap.size (fun _=>True) (.slice bw m.length aT) m)∧Aside0 (w'.heap[aR]? =some (.cells #[(.slice az u.length aG),.int .i64 D,.int .i64 E,.int .i64 G,(.slice aA x.length aH),.bool I,(.slice aC y.length aI),(.slice aD z.length aJ),(.slice aE A.length aK)] 35 (0,0)))∧Aside0 (w'.heap[al]? =some (.cells #[.bool false,(.slice none 0 0),(.slice none 0 0)] 43 (0,0)))∧Aside0 (w'.heap[aY]? =some (.cells #[.int .i64 af,(.slice bw m.length aT)] 65 (0,0)))∧Aside0 (Below w.heap.size w w'))
    case atStart=>exact⟨(true),(0),(es),(es),H,⟨Nat.le_refl _⟩,⟨rk bA.out⟩,⟨rk r.out⟩,⟨rk r.out⟩,⟨bk a.out⟩,⟨bk d.out⟩,⟨bk j.out⟩,⟨bel⟩⟩
    case round=>
     clear H
     try clear cU;try clear bE;try clear bF;try clear bG;try clear bH;try clear bI;try clear bJ;try clear bK;try clear bL;try clear bM;try clear aZ;try clear a0;try clear a2;try clear a3;try clear a4;try clear a5;try clear a6;try clear a7;try clear a8;try clear bN;try clear bO;try clear a9;try clear ba;try clear bP;try clear bQ;try clear bR;try clear bS;try clear bT;try clear bU;try clear bV;try clear bW;try clear bX;try clear bc;try clear bd;try clear be;try clear bf;try clear bg;try clear bh;try clear bi;try clear bj;try clear bl;try clear bY;try clear bZ;try clear bn;try clear bo
     obtain⟨cc,l,rfl,rfl,HA,bu,s,v,i,a,d,j,HB⟩:=hrel
     cases gk with
     |zero=>exact absurd HA.out (by simp [spec_LeadVerdict.l0])
     |succ k1=>
      have H:=HA.out
      clear HA
      simp only[spec_LeadVerdict.l0]at H
      replace H:=i1 H;obtain⟨cT,H⟩|⟨cT,H⟩:=H
      ·replace H:=i0 H;obtain⟨gz,H⟩:=H
       replace H:=i0 H;obtain⟨gA,H⟩:=H
       replace H:=ib H;obtain⟨rfl,H⟩|⟨rfl,H⟩:=H
       ·replace H:=ie H;obtain⟨ec,ed,H⟩|⟨⟨hi,ec,ed⟩,H⟩:=H
        ·replace H:=i0 H;obtain⟨gB,H⟩:=H
         replace H:=am H
         have:(0≤(l:Int))=True:=ab
         have:(l<(m.length:Int))=True:=ab
         obtain⟨cS,bD,b3,b4,b5⟩:=at_T71 (Kd.R_reads' v.out).2.2 l asm asm
         cases bD
         go_wp2_with (first|((with_reducible refine gd 12 ?_);refine by_ w 12 #[.int .i64 0,.int .i64 0,.int .i64 0] 71 ?_;clear HB;intro q hg gM ag cN hb HB;obtain⟨aV,ai⟩:=qn hg a;obtain⟨aW,aj⟩:=qn hg d;obtain⟨aX,ak⟩:=qn hg j;replace s:=rb s hb;replace v:=am (Kd.R_below (Kd.R_elderB (rk v.out) q (Nat.le_of_eq hg.symm)) hb);replace i:=am (Kd.R_below (Kd.R_elderB (rk i.out) q (Nat.le_of_eq hg.symm)) hb);replace a:=b1 a hb;replace d:=b1 d hb;replace j:=b1 j hb;clear hb hg;obtain⟨_,_⟩:=qo ai;obtain⟨_,_⟩:=qo aj;obtain⟨_,_⟩:=qo ak;obtain⟨fv,fw,fx,fV,fW,fX⟩:=cf3 ag.out;obtain⟨gQ,gX,fb⟩:=Kd.R_slice s.out;subst fb;have:(0≤(l:Int))=True:=ab;have:(l<(ar.length:Int))=True:=ab;obtain⟨b9,e7,an⟩:=Kd.at_int (Kd.R_reads' s.out).2.2 l asm asm;cases e7;have aM:b9.block≠q:=Kd.own_blk (Kd.R_ne s.out ag.out (by decide));have aN:b9.block≠q:=Kd.own_blk (Kd.R_ne s.out ag.out (by decide));have aQ:b9.block≠q:=Kd.own_blk (Kd.R_ne s.out ag.out (by decide));replace an:=(cell_far (p:=⟨q,0,none⟩) (by first|(rw[add_block];exact aM)|(show(Addr.add _ _).block≠_;rw[add_block];exact aM)|exact aM) (.int .i64 ((rd_T71 m l).f0))).trans an;replace an:=(cell_far (p:=⟨q,1,none⟩) (by first|(rw[add_block];exact aN)|(show(Addr.add _ _).block≠_;rw[add_block];exact aN)|exact aN) (.int .i64 ((rd_T71 m l).f1))).trans an;replace an:=(cell_far (p:=⟨q,2,none⟩) (by first|(rw[add_block];exact aQ)|(show(Addr.add _ _).block≠_;rw[add_block];exact aQ)|exact aQ) (.int .i64 ((rd_T71 m l).f2))).trans an;(try have gb:=fun(n_:Nat)=>(show(((((gM.drewN n_).setCell ⟨q,0,none⟩ (.int .i64 ((rd_T71 m l).f0))).setCell ⟨q,1,none⟩ (.int .i64 ((rd_T71 m l).f1))).setCell ⟨q,2,none⟩ (.int .i64 ((rd_T71 m l).f2)))).cell? _=some _ from an));clear aM;clear aN;clear aQ)|go_quiet (fail))
         go_roundg k1
         case measure=>have:=bu.out;omega
         case rel=>exact⟨(((rd ar l)==((rd_T71 m l).f2))),(wrap64 (l+1)),(es),(es),H,⟨by have:=bu.out;omega⟩,⟨(kf (Kd.R_types s.out ag.out (by decide)) (fun _ hk=>trivial))⟩,⟨by(with_reducible repeat (first|apply Kd.R_alloc|apply Kd.R_drewN|apply Kd.R_drew));exact Kd.R_mono (Kd.R_far (p:=⟨q,2,none⟩) (Kd.R_far (p:=⟨q,1,none⟩) (Kd.R_far (p:=⟨q,0,none⟩) (Kd.R_mono v.out (fun k_ hk=>(⟨hk,hk.2⟩:_∧k_≠q))) (fun _ hk=>hk.2) (.int .i64 ((rd_T71 m l).f0))) (fun _ hk=>hk.2) (.int .i64 ((rd_T71 m l).f1))) (fun _ hk=>hk.2) (.int .i64 ((rd_T71 m l).f2))) (fun _ hk=>trivial)⟩,⟨by(with_reducible repeat (first|apply Kd.R_alloc|apply Kd.R_drewN|apply Kd.R_drew));exact Kd.R_mono (Kd.R_far (p:=⟨q,2,none⟩) (Kd.R_far (p:=⟨q,1,none⟩) (Kd.R_far (p:=⟨q,0,none⟩) (Kd.R_mono i.out (fun k_ hk=>(⟨hk,hk.2⟩:_∧k_≠q))) (fun _ hk=>hk.2) (.int .i64 ((rd_T71 m l).f0))) (fun _ hk=>hk.2) (.int .i64 ((rd_T71 m l).f1))) (fun _ hk=>hk.2) (.int .i64 ((rd_T71 m l).f2))) (fun _ hk=>trivial)⟩,⟨bk a.out⟩,⟨bk d.out⟩,⟨bk j.out⟩,⟨bel⟩⟩
        ·replace H:=am H
         have:(0≤(l:Int))=True:=ab
         have:(l<(m.length:Int))=True:=ab
         obtain⟨cS,bD,b3,b4,b5⟩:=at_T71 (Kd.R_reads' v.out).2.2 l asm asm
         cases bD
         go_wp2_with (first|((with_reducible refine gd 12 ?_);refine by_ w 12 #[.int .i64 0,.int .i64 0,.int .i64 0] 71 ?_;clear HB;intro q hg ht ag cN hb HB;obtain⟨aV,ai⟩:=qn hg a;obtain⟨aW,aj⟩:=qn hg d;obtain⟨aX,ak⟩:=qn hg j;replace s:=rb s hb;replace v:=am (Kd.R_below (Kd.R_elderB (rk v.out) q (Nat.le_of_eq hg.symm)) hb);replace i:=am (Kd.R_below (Kd.R_elderB (rk i.out) q (Nat.le_of_eq hg.symm)) hb);replace a:=b1 a hb;replace d:=b1 d hb;replace j:=b1 j hb;clear hb hg;obtain⟨_,_⟩:=qo ai;obtain⟨_,_⟩:=qo aj;obtain⟨_,_⟩:=qo ak;obtain⟨fy,fz,fA,fY,fZ,f3⟩:=cf3 ag.out)|go_quiet (fail))
         go_roundg k1
         case measure=>have:=bu.out;omega
         case rel=>exact⟨(true),(wrap64 (l+1)),(es),(es),H,⟨by have:=bu.out;omega⟩,⟨(kf (Kd.R_types s.out ag.out (by decide)) (fun _ hk=>trivial))⟩,⟨by(with_reducible repeat (first|apply Kd.R_alloc|apply Kd.R_drewN|apply Kd.R_drew));exact Kd.R_mono (Kd.R_far (p:=⟨q,2,none⟩) (Kd.R_far (p:=⟨q,1,none⟩) (Kd.R_far (p:=⟨q,0,none⟩) (Kd.R_mono v.out (fun k_ hk=>(⟨hk,hk.2⟩:_∧k_≠q))) (fun _ hk=>hk.2) (.int .i64 ((rd_T71 m l).f0))) (fun _ hk=>hk.2) (.int .i64 ((rd_T71 m l).f1))) (fun _ hk=>hk.2) (.int .i64 ((rd_T71 m l).f2))) (fun _ hk=>trivial)⟩,⟨by(with_reducible repeat (first|apply Kd.R_alloc|apply Kd.R_drewN|apply Kd.R_drew));exact Kd.R_mono (Kd.R_far (p:=⟨q,2,none⟩) (Kd.R_far (p:=⟨q,1,none⟩) (Kd.R_far (p:=⟨q,0,none⟩) (Kd.R_mono i.out (fun k_ hk=>(⟨hk,hk.2⟩:_∧k_≠q))) (fun _ hk=>hk.2) (.int .i64 ((rd_T71 m l).f0))) (fun _ hk=>hk.2) (.int .i64 ((rd_T71 m l).f1))) (fun _ hk=>hk.2) (.int .i64 ((rd_T71 m l).f2))) (fun _ hk=>trivial)⟩,⟨bk a.out⟩,⟨bk d.out⟩,⟨bk j.out⟩,⟨bel⟩⟩
       ·replace H:=am H
        have:(0≤(l:Int))=True:=ab
        have:(l<(m.length:Int))=True:=ab
        obtain⟨cS,bD,b3,b4,b5⟩:=at_T71 (Kd.R_reads' v.out).2.2 l asm asm
        cases bD
        go_wp2_with (first|((with_reducible refine gd 12 ?_);refine by_ w 12 #[.int .i64 0,.int .i64 0,.int .i64 0] 71 ?_;clear HB;intro q hg hu ag cN hb HB;obtain⟨aV,ai⟩:=qn hg a;obtain⟨aW,aj⟩:=qn hg d;obtain⟨aX,ak⟩:=qn hg j;replace s:=rb s hb;replace v:=am (Kd.R_below (Kd.R_elderB (rk v.out) q (Nat.le_of_eq hg.symm)) hb);replace i:=am (Kd.R_below (Kd.R_elderB (rk i.out) q (Nat.le_of_eq hg.symm)) hb);replace a:=b1 a hb;replace d:=b1 d hb;replace j:=b1 j hb;clear hb hg;obtain⟨_,_⟩:=qo ai;obtain⟨_,_⟩:=qo aj;obtain⟨_,_⟩:=qo ak;obtain⟨fB,fC,fD,f4,f5,f6⟩:=cf3 ag.out)|go_quiet (fail))
        go_roundg k1
        case measure=>have:=bu.out;omega
        case rel=>exact⟨(false),(wrap64 (l+1)),(es),(es),H,⟨by have:=bu.out;omega⟩,⟨(kf (Kd.R_types s.out ag.out (by decide)) (fun _ hk=>trivial))⟩,⟨by(with_reducible repeat (first|apply Kd.R_alloc|apply Kd.R_drewN|apply Kd.R_drew));exact Kd.R_mono (Kd.R_far (p:=⟨q,2,none⟩) (Kd.R_far (p:=⟨q,1,none⟩) (Kd.R_far (p:=⟨q,0,none⟩) (Kd.R_mono v.out (fun k_ hk=>(⟨hk,hk.2⟩:_∧k_≠q))) (fun _ hk=>hk.2) (.int .i64 ((rd_T71 m l).f0))) (fun _ hk=>hk.2) (.int .i64 ((rd_T71 m l).f1))) (fun _ hk=>hk.2) (.int .i64 ((rd_T71 m l).f2))) (fun _ hk=>trivial)⟩,⟨by(with_reducible repeat (first|apply Kd.R_alloc|apply Kd.R_drewN|apply Kd.R_drew));exact Kd.R_mono (Kd.R_far (p:=⟨q,2,none⟩) (Kd.R_far (p:=⟨q,1,none⟩) (Kd.R_far (p:=⟨q,0,none⟩) (Kd.R_mono i.out (fun k_ hk=>(⟨hk,hk.2⟩:_∧k_≠q))) (fun _ hk=>hk.2) (.int .i64 ((rd_T71 m l).f0))) (fun _ hk=>hk.2) (.int .i64 ((rd_T71 m l).f1))) (fun _ hk=>hk.2) (.int .i64 ((rd_T71 m l).f2))) (fun _ hk=>trivial)⟩,⟨bk a.out⟩,⟨bk d.out⟩,⟨bk j.out⟩,⟨bel⟩⟩
      ·replace H:=ib H;obtain⟨rfl,H⟩|⟨rfl,H⟩:=H
       ·replace H:=bm H;obtain⟨dY,e0,H⟩:=H
        obtain⟨rfl,rfl,rfl,rfl⟩:=qj4 H
        obtain⟨_,_⟩:=qo J
        obtain⟨_,_⟩:=qo av
        obtain⟨_,_,_,_,_,_,_,_,_,_,_,_,_,_,_,_,_,_⟩:=cf9 a.out
        obtain⟨gR,gY,fc⟩:=Kd.R_slice s.out
        subst fc
        go_wp2_with (first|(go_at_call 36;refine cm (spec_l18Results.calls k1 _ _ u D E G _ _ x I _ _ y _ _ z _ _ A a1 _ _ ar dY _ (cb U HB) K.out (cb W HB) L.out (cb X HB) O.out (cb Y HB) P.out (cb Z HB) T.out (ck (Kd.R_reads' s.out).2.2) ((Kd.R_reads' s.out).2.1) e0.out) ?_;rintro e gN ⟨go,rfl,B,hb⟩;have bB:=am (Kd.R_lower (Kd.R_new' B (Kd.R_lt (rk s.out))) (below_size bel));replace s:=am (Kd.R_elder' (rk s.out) (Kd.R_base B) hb);replace v:=rb v hb;replace i:=rb i hb;replace a:=b1 a hb;replace d:=b1 d hb;replace j:=b1 j hb;replace HB:=b2 hb;clear hb;(try clear B);obtain⟨d1,d2,cX⟩:=Kd.R_slice bB.out;subst cX;obtain⟨_,_⟩:=qo ah;obtain⟨dg,dh,di,dH,dI,dJ⟩:=cf3 d.out)|go_quiet (first|(go_at_call 36;refine cm (spec_l18Results.calls k1 _ _ u D E G _ _ x I _ _ y _ _ z _ _ A a1 _ _ ar dY _ (cb U HB) K.out (cb W HB) L.out (cb X HB) O.out (cb Y HB) P.out (cb Z HB) T.out (ck (Kd.R_reads' s.out).2.2) ((Kd.R_reads' s.out).2.1) e0.out) ?_;rintro e gN ⟨go,rfl,B,hb⟩;have bB:=am (Kd.R_lower (Kd.R_new' B (Kd.R_lt (rk s.out))) (below_size bel));replace s:=am (Kd.R_elder' (rk s.out) (Kd.R_base B) hb);replace v:=rb v hb;replace i:=rb i hb;replace a:=b1 a hb;replace d:=b1 d hb;replace j:=b1 j hb;replace HB:=b2 hb;clear hb;(try clear B);obtain⟨d1,d2,cX⟩:=Kd.R_slice bB.out;subst cX;obtain⟨_,_⟩:=qo ah;obtain⟨dg,dh,di,dH,dI,dJ⟩:=cf3 d.out)))
        refine bodyPost_ret (results_ct rfl _ _ al 43 #[.bool true,.slice d1 dY.length d2,.slice none 0 0] (0,0) _ rfl (bz d) Tryz.underlying43 rfl (by kernel_rfl)) rfl ?_
        exact⟨_,_,er,(kf (Kd.R_types bB.out d.out (by decide)) (fun _ hk=>(by simp [Value.ownBlock]))),qk,bel⟩
       ·replace H:=bm H;obtain⟨br,e1,H⟩:=H
        replace H:=am H
        obtain⟨_,_⟩:=qo ad
        obtain⟨_,_⟩:=qo ae
        obtain⟨dj,dk,dK,dL⟩:=cf2 j.out
        obtain⟨gS,gZ,fd⟩:=Kd.R_slice s.out
        subst fd
        go_wp2_with (first|(go_at_call 37;refine cm (spec_SourceSide.calls k1 af _ _ m 0 _ _ ar br _ (ck (Kd.R_reads' i.out).2.2) ((Kd.R_reads' i.out).2.1) (ck (Kd.R_reads' s.out).2.2) ((Kd.R_reads' s.out).2.1) e1.out) ?_;rintro e gO ⟨d3,rfl,B,hb⟩;have bC:=am (Kd.R_lower B (below_size bel));replace s:=rb s hb;replace v:=rb v hb;replace i:=rb i hb;replace a:=b1 a hb;replace d:=b1 d hb;replace j:=b1 j hb;replace HB:=b2 hb;clear hb;(try clear B))|((with_reducible refine gd 14 ?_);refine by_ w 14 #[.bool false,.slice none 0 0,.slice none 0 0] 43 ?_;clear HB;intro cY hg hv aa gy hb HB;obtain⟨d7,aw⟩:=qn hg a;obtain⟨d8,ax⟩:=qn hg d;obtain⟨d9,ay⟩:=qn hg j;replace s:=rb s hb;replace v:=rb v hb;replace i:=rb i hb;replace bC:=rb bC hb;replace a:=b1 a hb;replace d:=b1 d hb;replace j:=b1 j hb;clear hb hg;obtain⟨_,_⟩:=qo aw;obtain⟨_,_⟩:=qo ax;obtain⟨_,_⟩:=qo ay;obtain⟨dl,dm,dn,dM,dN,dO⟩:=cf3 aa.out;obtain⟨_,_⟩:=qo J;obtain⟨dp,dq,dr,ds,dt,du,dv,dw,dx,dP,dQ,dR,dS,dT,dU,dV,dW,dX⟩:=cf9 a.out)|go_quiet (first|(go_at_call 37;refine cm (spec_SourceSide.calls k1 af _ _ m 0 _ _ ar br _ (ck (Kd.R_reads' i.out).2.2) ((Kd.R_reads' i.out).2.1) (ck (Kd.R_reads' s.out).2.2) ((Kd.R_reads' s.out).2.1) e1.out) ?_;rintro e gO ⟨d3,rfl,B,hb⟩;have bC:=am (Kd.R_lower B (below_size bel));replace s:=rb s hb;replace v:=rb v hb;replace i:=rb i hb;replace a:=b1 a hb;replace d:=b1 d hb;replace j:=b1 j hb;replace HB:=b2 hb;clear hb;(try clear B))))
        go_loopg [77] k1 (fun kq gG w'=>∃(ao:Int) (ac:List Int) (u548002:Value),gG=.int .i64 ao∧Aside0 (spec_LeadVerdict.l1 kq br (u.length:Int) ao false ac=some (r1,r2,r3,r4))∧Aside0 (kq≤k1)∧Aside0 (Kd.R Kd.bool 4 w' w.heap.size (fun _=>True) d3 br)∧Aside0 (Kd.R k71 71 w' w.heap.size (fun _=>True) (.slice bw m.length aT) m)∧Aside0 (Kd.R (Kd.int .i64) 3 w' w.heap.size (fun _=>True) u548002 ac)∧Aside0 (w'.heap[aR]? =some (.cells #[(.slice az u.length aG),.int .i64 D,.int .i64 E,.int .i64 G,(.slice aA x.length aH),.bool I,(.slice aC y.length aI),(.slice aD z.length aJ),(.slice aE A.length aK)] 35 (0,0)))∧Aside0 (w'.heap[al]? =some (.cells #[.bool false,(.slice none 0 0),(.slice none 0 0)] 43 (0,0)))∧Aside0 (w'.heap[aY]? =some (.cells #[.int .i64 af,(.slice bw m.length aT)] 65 (0,0)))∧Aside0 (w'.heap[cY]? =some (.cells #[.bool false,(.slice none 0 0),u548002] 43 (0,0)))∧Aside0 (Below w.heap.size w w'))
        case atStart=>exact⟨(0),(([]:List Int)),(.slice none 0 0),(es),H,⟨Nat.le_refl _⟩,⟨(kf (Kd.R_types bC.out aa.out (by decide)) (fun _ hk=>trivial))⟩,⟨(kf (Kd.R_types i.out aa.out (by decide)) (fun _ hk=>trivial))⟩,⟨qk⟩,⟨bk a.out⟩,⟨bk d.out⟩,⟨bk j.out⟩,⟨(bz aa)⟩,⟨bel⟩⟩
        case round=>
         clear H
         try clear cU;try clear cT;try clear bE;try clear bF;try clear bG;try clear bH;try clear bI;try clear bJ;try clear bK;try clear bL;try clear bM;try clear aZ;try clear a0;try clear a2;try clear a3;try clear a4;try clear a5;try clear a6;try clear a7;try clear a8;try clear bN;try clear bO;try clear a9;try clear ba;try clear dj;try clear dk;try clear dl;try clear dm;try clear dn;try clear dp;try clear dq;try clear dr;try clear ds;try clear dt;try clear du;try clear dv;try clear dw;try clear dx;try clear bP;try clear bQ;try clear bR;try clear bS;try clear bT;try clear bU;try clear bV;try clear bW;try clear bX;try clear bc;try clear bd;try clear be;try clear bf;try clear bg;try clear bh;try clear bi;try clear bj;try clear bl;try clear bY;try clear bZ;try clear bn;try clear bo;try clear dK;try clear dL;try clear dM;try clear dN;try clear dO;try clear dP;try clear dQ;try clear dR;try clear dS;try clear dT;try clear dU;try clear dV;try clear dW;try clear dX
         obtain⟨ao,ac,u548002,rfl,HA,d0,ap,i,t,a,d,j,aa,HB⟩:=hrel
         cases gk with
         |zero=>exact absurd HA.out (by simp [spec_LeadVerdict.l1])
         |succ k2=>
          have H:=HA.out
          clear HA
          simp only[spec_LeadVerdict.l1]at H
          replace H:=i1 H;obtain⟨ee,H⟩|⟨ee,H⟩:=H
          ·obtain⟨aU,ca⟩:∃j_:Int,(wrap64 (2+ao))=j_:=⟨_,rfl⟩
           (first|rw[ca]at H|simp only[ca]at H)
           have gw:(IntKind.i64.wrap (2+ao))=aU:=(i64_w _).trans ca
           replace H:=i0 H;obtain⟨gC,H⟩:=H
           replace H:=i0 H;obtain⟨gD,H⟩:=H
           generalize hbq88:(rdOf false br (aU))=gV at H
           have cQ:=am hbq88.symm
           clear hbq88
           replace H:=ib H;obtain⟨rfl,H⟩|⟨rfl,H⟩:=H
           ·replace H:=i0 H;obtain⟨e4,H⟩:=H
            have d6:=am (of_decide_eq_true e4)
            clear e4
            generalize hy549:(ac++[ao]:List Int)=d4 at H
            have ea:=am hy549.symm
            clear hy549
            replace H:=am H
            obtain⟨gT,g0,fe⟩:=Kd.R_slice ap.out
            subst fe
            have:(0≤((aU):Int))=True:=ab
            have:((aU)<(br.length:Int))=True:=ab
            obtain⟨eb,cW,bp⟩:=Kd.at_bool (Kd.R_reads' ap.out).2.2 (aU) asm asm
            (try rw[←cQ.out]at bp)
            cases cW
            obtain⟨_,_⟩:=qo aw
            obtain⟨_,_⟩:=qo ax
            obtain⟨_,_⟩:=qo ay
            obtain⟨_,_,_,_,_,_⟩:=cf3 aa.out
            go_wp2_with (first|((with_reducible refine gate_builtin (b:=.append) (xs:=#[.tmp 86,.tmp 88]) rfl ?_);at_builtin;refine Kd.R_append (Kd.int .i64) (w0:=w) w.heap.size rfl (.tmp 86) (.tmp 88) 23 3 (.int .i64 0) 8 rfl Tryz.underlying23 info3 rfl (by decide) (by omega) u548002 ac ao [.int .i64 ao] (fun _=>True) (fun _=>False) rfl rfl ?aP (fun _ hk=>hk.elim) ?aF ?aO ?aB ?aS ?aL ?_;(case aP=>exact rfl);(case aB=>exact bel);(case aF=>exact(fun _ _=>trivial));(case aO=>exact(rk t.out));(case aS=>exact(below_size bel));(case aL=>have:=d6.out;omega);intro g9 hw ho hb hg hat;rw[←ea.out]at ho;have ge:=am (Kd.R_over' (rk ap.out) (Kd.R_typed (rk t.out)) (by decide) hg);have gf:=am (Kd.R_over' (rk i.out) (Kd.R_typed (rk t.out)) (by decide) hg);have gg:=am (blk_grown (g:=aR) (o:=.cells #[.slice az u.length aG,.int .i64 D,.int .i64 E,.int .i64 G,.slice aA x.length aH,.bool I,.slice aC y.length aI,.slice aD z.length aJ,.slice aE A.length aK] 35 (0,0)) (bk a.out) hg (Kd.R_ne t.out a.out (by decide)));have gh:=am (blk_grown (g:=al) (o:=.cells #[.bool false,.slice none 0 0,.slice none 0 0] 43 (0,0)) (bk d.out) hg (Kd.R_ne t.out d.out (by decide)));have gi:=am (blk_grown (g:=aY) (o:=.cells #[.int .i64 af,.slice bw m.length aT] 65 (0,0)) (bk j.out) hg (Kd.R_ne t.out j.out (by decide)));have gj:=am (blk_grown (g:=cY) (o:=.cells #[.bool false,.slice none 0 0,u548002] 43 (0,0)) (bk aa.out) hg (Kd.R_ne t.out aa.out (by decide)));have gm:=am (hb);have gn:=am (ho);clear ap;clear i;clear a;clear d;clear j;clear aa;clear HB;clear t;have ap:=ge;have i:=gf;have a:=gg;have d:=gh;have j:=gi;have aa:=gj;have HB:=gm;have cP:=gn;clear ge gf gg gh gi gj gm gn;clear ho hb hg hat;obtain⟨e3,e6,ff⟩:=Kd.R_slice cP.out;subst ff;obtain⟨fE,fF,fG,f7,f8,f9⟩:=cf3 aa.out)|go_quiet (fail))
            go_roundg k2
            case measure=>have:=bu.out;have:=d0.out;omega
            case rel=>exact⟨(wrap64 (ao+1)),(d4),(.slice e3 d4.length e6),(es),H,⟨by have:=bu.out;have:=d0.out;omega⟩,⟨(kf (Kd.R_types ap.out aa.out (by decide)) (fun _ hk=>trivial))⟩,⟨(kf (Kd.R_types i.out aa.out (by decide)) (fun _ hk=>trivial))⟩,⟨(kf (Kd.R_types cP.out aa.out (by decide)) (fun _ hk=>trivial))⟩,⟨bk a.out⟩,⟨bk d.out⟩,⟨bk j.out⟩,⟨(bz aa)⟩,⟨bel⟩⟩
           ·replace H:=am H
            obtain⟨gU,g1,fg⟩:=Kd.R_slice ap.out
            subst fg
            have:(0≤((aU):Int))=True:=ab
            have:((aU)<(br.length:Int))=True:=ab
            obtain⟨eb,cW,bp⟩:=Kd.at_bool (Kd.R_reads' ap.out).2.2 (aU) asm asm
            (try rw[←cQ.out]at bp)
            cases cW
            go_wp2
            repeat (go_quiet (fail);try go_wp2)
            go_roundg k2
            case measure=>have:=bu.out;have:=d0.out;omega
            case rel=>exact⟨(wrap64 (ao+1)),(ac),(u548002),(es),H,⟨by have:=bu.out;have:=d0.out;omega⟩,⟨rk ap.out⟩,⟨rk i.out⟩,⟨rk t.out⟩,⟨bk a.out⟩,⟨bk d.out⟩,⟨bk j.out⟩,⟨bk aa.out⟩,⟨bel⟩⟩
          ·obtain⟨rfl,rfl,rfl,rfl⟩:=qj4 H
           obtain⟨_,_⟩:=qo aw
           obtain⟨_,_⟩:=qo ax
           obtain⟨_,_⟩:=qo ay
           obtain⟨_,_,_,_,_,_⟩:=cf3 aa.out
           obtain⟨_,_⟩:=qo aq
           obtain⟨_,_⟩:=qo ah
           obtain⟨_,_,_,_,_,_⟩:=cf3 d.out
           obtain⟨d5,ef,eg⟩:=Kd.R_slice t.out
           subst eg
           go_wp2
           repeat (go_quiet (fail);try go_wp2)
           refine bodyPost_ret (results_ct rfl _ _ al 43 #[.bool false,.slice none 0 0,.slice d5 ac.length ef] (0,0) _ rfl (bz d) Tryz.underlying43 rfl (by kernel_rfl)) rfl ?_
           exact⟨_,_,er,qk,(kf (Kd.R_types t.out d.out (by decide)) (fun _ hk=>(by simp [Value.ownBlock]))),bel⟩
   ·obtain⟨rfl,rfl,rfl,rfl⟩:=qj4 H
    go_enter Tryz.func14,Tryz.ntmps14
    go_wp2_with (first|((with_reducible refine gd 2 ?_);refine bx w 2 #[.slice az u.length aG,.int .i64 D,.int .i64 E,.int .i64 G,.slice aA x.length aH,.bool I,.slice aC y.length aI,.slice aD z.length aJ,.slice aE A.length aK] 35 ?_;clear HB;intro aR ha a b7 HB)|((with_reducible refine gd 4 ?_);refine by_ w 4 #[.bool false,.slice none 0 0,.slice none 0 0] 43 ?_;clear HB;intro al hg hc d b8 hb HB;obtain⟨J,aq⟩:=qn hg a;replace a:=b1 a hb;clear hb hg;obtain⟨_,_⟩:=qo J;obtain⟨ek,el,em,en,eo,ep,eq,et,eu,eG,eH,eI,eJ,eK,eL,eM,eN,eO⟩:=cf9 a.out)|(go_at_call 33;refine cm2 (spec_l18Ok.calls k _ _ u D E G _ _ x I _ _ y _ _ z _ _ A a1 true _ (cb U HB) K.out (cb W HB) L.out (cb X HB) O.out (cb Y HB) P.out (cb Z HB) T.out A3.out) ?_;intro gp hb;replace a:=b1 a hb;replace d:=b1 d hb;replace HB:=b2 hb;clear hb;obtain⟨ce,cf,cg,ch,ci,cj,cn,co,cp,cx,cy,cz,cA,cB,cC,cD,cE,cF⟩:=cf9 a.out)|(go_at_call 34;refine cm (spec_l18Net.calls k _ _ u D E G _ _ x I _ _ y _ _ z _ _ A a1 af m au _ (cb U HB) K.out (cb W HB) L.out (cb X HB) O.out (cb Y HB) P.out (cb Z HB) T.out A5.out) ?_;rintro e gq ⟨b6,rfl,B,hb⟩;have r:=am (Kd.R_lower B (below_size bel));replace a:=b1 a hb;replace d:=b1 d hb;replace HB:=b2 hb;clear hb;(try clear B))|((with_reducible refine gd 6 ?_);refine by_ w 6 #[.int .i64 0,.slice none 0 0] 65 ?_;clear HB;intro aY hg he j cM hb HB;obtain⟨av,ad⟩:=qn hg a;obtain⟨ah,ae⟩:=qn hg d;replace r:=rb r hb;replace a:=b1 a hb;replace d:=b1 d hb;clear hb hg;obtain⟨_,_⟩:=qo ad;obtain⟨_,_⟩:=qo ae;obtain⟨ev,ew,eP,eQ⟩:=cf2 j.out;obtain⟨gx,cV,eh⟩:=Kd.R_slice r.out;subst eh)|(go_at_call 35;(with_reducible refine(spec_GreatestFlow.calls k af _ _ m 0 1 ar false _ ?side1 ?side2 dZ.out).mono ?_);(case side1=>refine(Kd.R_reads' (e:=71) (base:=w.heap.size) (ok:=fun k_=>True) (n:=m.length) (c:=cV) ?_).2.2;exact(kf (Kd.R_types r.out j.out (by decide)) (fun _ h_=>h_.1)));(case side2=>exact(Kd.R_reads' r.out).2.1);rintro e gr ⟨cd,rfl,B,hb⟩;have bA:=am (Kd.R_lower B (below_size bel));replace r:=am (Kd.R_below (kf (Kd.R_types r.out j.out (by decide)) (fun _ h_=>h_.1)) hb);replace a:=b1 a hb;replace d:=b1 d hb;replace j:=bq j hb;replace HB:=b2 hb;(try clear hb);(try clear hk);(try clear B);obtain⟨cq,cs,ct,cG,cH,cI⟩:=cf3 d.out)|go_quiet (first|(go_at_call 33;refine cm2 (spec_l18Ok.calls k _ _ u D E G _ _ x I _ _ y _ _ z _ _ A a1 true _ (cb U HB) K.out (cb W HB) L.out (cb X HB) O.out (cb Y HB) P.out (cb Z HB) T.out A3.out) ?_;intro gp hb;replace a:=b1 a hb;replace d:=b1 d hb;replace HB:=b2 hb;clear hb;obtain⟨ce,cf,cg,ch,ci,cj,cn,co,cp,cx,cy,cz,cA,cB,cC,cD,cE,cF⟩:=cf9 a.out)|(go_at_call 34;refine cm (spec_l18Net.calls k _ _ u D E G _ _ x I _ _ y _ _ z _ _ A a1 af m au _ (cb U HB) K.out (cb W HB) L.out (cb X HB) O.out (cb Y HB) P.out (cb Z HB) T.out A5.out) ?_;rintro e gq ⟨b6,rfl,B,hb⟩;have r:=am (Kd.R_lower B (below_size bel));replace a:=b1 a hb;replace d:=b1 d hb;replace HB:=b2 hb;clear hb;(try clear B))|(go_at_call 35;(with_reducible refine(spec_GreatestFlow.calls k af _ _ m 0 1 ar false _ ?side1 ?side2 dZ.out).mono ?_);(case side1=>refine(Kd.R_reads' (e:=71) (base:=w.heap.size) (ok:=fun k_=>True) (n:=m.length) (c:=cV) ?_).2.2;exact(kf (Kd.R_types r.out j.out (by decide)) (fun _ h_=>h_.1)));(case side2=>exact(Kd.R_reads' r.out).2.1);rintro e gr ⟨cd,rfl,B,hb⟩;have bA:=am (Kd.R_lower B (below_size bel));replace r:=am (Kd.R_below (kf (Kd.R_types r.out j.out (by decide)) (fun _ h_=>h_.1)) hb);replace a:=b1 a hb;replace d:=b1 d hb;replace j:=bq j hb;replace HB:=b2 hb;(try clear hb);(try clear hk);(try clear B);obtain⟨cq,cs,ct,cG,cH,cI⟩:=cf3 d.out)))
    refine bodyPost_ret (results_ct rfl _ _ al 43 #[.bool false,.slice none 0 0,.slice none 0 0] (0,0) _ rfl (bz d) Tryz.underlying43 rfl (by kernel_rfl)) rfl ?_
    exact⟨_,_,er,qk,qk,bel⟩
 ·obtain⟨rfl,rfl,rfl,rfl⟩:=qj4 H
  go_enter Tryz.func14,Tryz.ntmps14
  go_wp2_with (first|((with_reducible refine gd 2 ?_);refine bx w 2 #[.slice az u.length aG,.int .i64 D,.int .i64 E,.int .i64 G,.slice aA x.length aH,.bool I,.slice aC y.length aI,.slice aD z.length aJ,.slice aE A.length aK] 35 ?_;clear HB;intro aR hf a b7 HB)|((with_reducible refine gd 4 ?_);refine by_ w 4 #[.bool false,.slice none 0 0,.slice none 0 0] 43 ?_;clear HB;intro al hg hh d b8 hb HB;obtain⟨J,aq⟩:=qn hg a;replace a:=b1 a hb;clear hb hg;obtain⟨_,_⟩:=qo J;obtain⟨ex,ey,ez,eA,eB,eC,eD,eE,eF,eR,eS,eT,eU,eV,eW,eX,eY,eZ⟩:=cf9 a.out)|(go_at_call 33;refine cm2 (spec_l18Ok.calls k _ _ u D E G _ _ x I _ _ y _ _ z _ _ A a1 false _ (cb U HB) K.out (cb W HB) L.out (cb X HB) O.out (cb Y HB) P.out (cb Z HB) T.out A3.out) ?_;intro gt hb;replace a:=b1 a hb;replace d:=b1 d hb;replace HB:=b2 hb;clear hb;obtain⟨cu,cv,cw,cJ,cK,cL⟩:=cf3 d.out)|go_quiet (first|(go_at_call 33;refine cm2 (spec_l18Ok.calls k _ _ u D E G _ _ x I _ _ y _ _ z _ _ A a1 false _ (cb U HB) K.out (cb W HB) L.out (cb X HB) O.out (cb Y HB) P.out (cb Z HB) T.out A3.out) ?_;intro gt hb;replace a:=b1 a hb;replace d:=b1 d hb;replace HB:=b2 hb;clear hb;obtain⟨cu,cv,cw,cJ,cK,cL⟩:=cf3 d.out)))
  refine bodyPost_ret (results_ct rfl _ _ al 43 #[.bool false,.slice none 0 0,.slice none 0 0] (0,0) _ rfl (bz d) Tryz.underlying43 rfl (by kernel_rfl)) rfl ?_
  exact⟨_,_,er,qk,qk,bel⟩
def spec_EliminatedTeams.l0:Nat→List Int→Int→Int→List (S83)→Int→Int→Int→List Int→Bool→List (S79)→List Int→List Int→Option (List Int)
  |0,_,_,_,_,_,_,_,_,_,_,_,_=>none
  |k+1,x3,n,l,a,b,c,d,e,g,h,i,j=>if l<n then((spec_LeadVerdict.f k a b c d e g h i j l).bind fun m=>(if m.2.2.2=true then(if m.1=true then(spec_EliminatedTeams.l0 k x3 n (wrap64 (l+1)) a b c d e g h i j)else(if x3.length<17592186044416 then(spec_EliminatedTeams.l0 k (x3++[l]) n (wrap64 (l+1)) a b c d e g h i j)else(none)))else(spec_EliminatedTeams.l0 k x3 n (wrap64 (l+1)) a b c d e g h i j)))else(some x3)
def spec_EliminatedTeams.f(k:Nat)(a:List (S83))(b:Int)(c:Int)(d:Int)(g:List Int)(e:Bool)(h:List (S79))(i:List Int)(j:List Int):Option (List Int):=spec_EliminatedTeams.l0 k (([]:List Int)) (a.length:Int) 0 a b c d g e h i j
theorem spec_EliminatedTeams.calls(k:Nat)(Y:Option Addr)(ae:Nat)(n:List (S83))(u:Int)(v:Int)(x:Int)(Z:Option Addr)(af:Nat)(p:List Int)(y:Bool)(aa:Option Addr)(ag:Nat)(q:List (S79))(ac:Option Addr)(ah:Nat)(s:List Int)(ad:Option Addr)(ai:Nat)(t:List Int)(r:List Int)(w:World)(G:Kd.C k83 w Y n.length n)(z:n.length≤ae)(I:Kd.C (Kd.int .i64) w Z p.length p)(A:p.length≤af)(J:Kd.C k79 w aa q.length q)(B:q.length≤ag)(K:Kd.C (Kd.int .i64) w ac s.length s)(D:s.length≤ah)(L:Kd.C (Kd.int .i64) w ad t.length t)(E:t.length≤ai)(h:spec_EliminatedTeams.f k n u v x p y q s t=some r):Calls Tryz.prog 6 #[.agg #[.slice Y n.length ae,.int .i64 u,.int .i64 v,.int .i64 x,.slice Z p.length af,.bool y,.slice aa q.length ag,.slice ac s.length ah,.slice ad t.length ai]] w fun e w'=>∃bi:Value,e=.returned (bi)∧Kd.R (Kd.int .i64) 3 w' w.heap.size (fun _=>True) bi r∧Below w.heap.size w w':=by
 have bD:=Tryz.underlying35
 have bE:=Tryz.underlying43
 replace G:=am G
 replace z:=am z
 replace I:=am I
 replace A:=am A
 replace J:=am J
 replace B:=am B
 replace K:=am K
 replace D:=am D
 replace L:=am L
 replace E:=am E
 have HB:=qb w
 have H:=h
 unfold spec_EliminatedTeams.f at H
 clear h
 obtain⟨aW,T⟩:∃y_:List Int,y_=(([]:List Int)):=⟨_,rfl⟩
 replace H:(spec_EliminatedTeams.l0 k aW (n.length:Int) 0 n u v x p y q s t)=some r:=by first|(rw[T];with_reducible exact H)|(have aX:=(Option.bind_some _ _).symm.trans H;rw[T];with_reducible exact aX)|(have aX:=(Option.bind_some _ _).symm.trans H;with_reducible exact aX)|with_reducible exact H|(rw[T];exact H)|exact H
 have ap:=am T
 clear T
 replace H:=am H
 go_enter Tryz.func6,Tryz.ntmps6
 go_wp2_with (first|((with_reducible refine gd 1 ?_);refine bx w 1 #[.slice Y n.length ae,.int .i64 u,.int .i64 v,.int .i64 x,.slice Z p.length af,.bool y,.slice aa q.length ag,.slice ac s.length ah,.slice ad t.length ai] 35 ?_;clear HB;intro au w2 a bl HB)|((with_reducible refine gate_dst (N:=7) rfl ?_);refine Kd.R_lit (Kd.int .i64) _ 3 ?hg (N:=7) ?hd (xs:=([]:List Int)) (inner:=[]) (ok:=fun _=>True) (okp:=fun _=>True) ?hr ?hp (fun _ hk=>hk) trivial (Below.refl _ _) (Nat.le_refl _) (by simp) ?_;(case hd=>rfl);(case hg=>rfl);(case hr=>first|(go_simp;done)|(go_simp;rfl));(case hp=>exact(Reps.none _ _));intro bG w3 av hb hg_ hnew_;clear hg_ hnew_;(first|rw[←ap.out]at av|(simp only[Int.reduceToNat]at av;rw[←ap.out]at av));have aY:=am (Kd.R_lower av (below_size bel));replace a:=b1 a hb;replace HB:=b2 hb;clear hb av;obtain⟨aw,ax,ay,az,aA,aC,aD,aE,aG,aH,aI,aJ,aK,aM,aN,aQ,aR,aT⟩:=cf9 a.out))
 go_loopg [3,11] k (fun kq v3 bn w'=>∃(U:List Int) (l:Int),bn=.int .i64 l∧Aside0 (spec_EliminatedTeams.l0 kq U (n.length:Int) l n u v x p y q s t=some r)∧Aside0 (kq≤k)∧Aside0 (Kd.R (Kd.int .i64) 3 w' w.heap.size (fun _=>True) v3 U)∧Aside0 (w'.heap[au]? =some (.cells #[(.slice Y n.length ae),.int .i64 u,.int .i64 v,.int .i64 x,(.slice Z p.length af),.bool y,(.slice aa q.length ag),(.slice ac s.length ah),(.slice ad t.length ai)] 35 (0,0)))∧Aside0 (Below w.heap.size w w'))
 case atStart=>exact⟨(aW),(0),(es),H,⟨Nat.le_refl _⟩,⟨rk aY.out⟩,⟨bk a.out⟩,⟨bel⟩⟩
 case round=>
  clear H
  try clear aw;try clear ax;try clear ay;try clear az;try clear aA;try clear aC;try clear aD;try clear aE;try clear aG;try clear aH;try clear aI;try clear aJ;try clear aK;try clear aM;try clear aN;try clear aQ;try clear aR;try clear aT
  obtain⟨U,l,rfl,HA,ak,c,a,HB⟩:=hrel
  cases gk with
  |zero=>exact absurd HA.out (by simp [spec_EliminatedTeams.l0])
  |succ k1=>
   have H:=HA.out
   clear HA
   simp only[spec_EliminatedTeams.l0]at H
   replace H:=i1 H;obtain⟨a3,H⟩|⟨a3,H⟩:=H
   ·replace H:=bm H;obtain⟨⟨bh,W,X,bF⟩,A7,H⟩:=H;dsimp only at H
    replace H:=ib H;obtain⟨rfl,H⟩|⟨rfl,H⟩:=H
    ·replace H:=ib H;obtain⟨rfl,H⟩|⟨rfl,H⟩:=H
     ·replace H:=am H
      obtain⟨_,_,_,_,_,_,_,_,_,_,_,_,_,_,_,_,_,_⟩:=cf9 a.out
      go_wp2_with (first|((with_reducible refine gc 14 ?_);refine gl 17 Tryz.func14 (spec_LeadVerdict.calls k1 _ _ n u v x _ _ p y _ _ q _ _ s _ _ t l true W X true _ (cb G HB) z.out (cb I HB) A.out (cb J HB) B.out (cb K HB) D.out (cb L HB) E.out A7.out) ?_;rintro e bI ⟨aU,aV,rfl,O,P,hb⟩;refine⟨_,rfl,?_⟩;have i:=am (Kd.R_lower (Kd.R_new' O (Kd.R_lt (rk c.out))) (below_size bel));have j:=am (Kd.R_lower (Kd.R_new' P (Kd.R_lt (rk c.out))) (below_size bel));replace c:=am (Kd.R_mono (Kd.R_told (Kd.R_told (Kd.R_old (rk c.out) hb) (Kd.R_base O)) (Kd.R_base P)) (fun _ h_=>h_.1));replace a:=b1 a hb;replace HB:=b2 hb;(try clear hb);(try clear O);(try clear P))|((with_reducible refine gd 5 ?_);refine by_ w 5 #[.bool false,.slice none 0 0,.slice none 0 0] 43 ?_;clear HB;intro aj hg bJ d ao hb HB;obtain⟨M,m⟩:=qn hg a;replace c:=rb c hb;replace i:=rb i hb;replace j:=rb j hb;replace a:=b1 a hb;clear hb hg;obtain⟨_,_⟩:=qo m;obtain⟨_,_,_,_,_,_⟩:=cf3 d.out;obtain⟨bo,bw,a4⟩:=Kd.R_slice i.out;subst a4;obtain⟨bp,bA,a5⟩:=Kd.R_slice j.out;subst a5))
      go_roundg k1
      case measure=>have:=ak.out;omega
      case rel=>exact⟨(U),(wrap64 (l+1)),(es),H,⟨by have:=ak.out;omega⟩,⟨(kf (Kd.R_types c.out d.out (by decide)) (fun _ hk=>trivial))⟩,⟨bk a.out⟩,⟨bel⟩⟩
     ·replace H:=i0 H;obtain⟨a2,H⟩:=H
      have a0:=am (of_decide_eq_true a2)
      clear a2
      generalize hy832:(U++[l]:List Int)=bj at H
      have a1:=am hy832.symm
      clear hy832
      replace H:=am H
      obtain⟨_,_,_,_,_,_,_,_,_,_,_,_,_,_,_,_,_,_⟩:=cf9 a.out
      go_wp2_with (first|((with_reducible refine gc 14 ?_);refine gl 17 Tryz.func14 (spec_LeadVerdict.calls k1 _ _ n u v x _ _ p y _ _ q _ _ s _ _ t l false W X true _ (cb G HB) z.out (cb I HB) A.out (cb J HB) B.out (cb K HB) D.out (cb L HB) E.out A7.out) ?_;rintro e bK ⟨aU,aV,rfl,O,P,hb⟩;refine⟨_,rfl,?_⟩;have i:=am (Kd.R_lower (Kd.R_new' O (Kd.R_lt (rk c.out))) (below_size bel));have j:=am (Kd.R_lower (Kd.R_new' P (Kd.R_lt (rk c.out))) (below_size bel));replace c:=am (Kd.R_mono (Kd.R_told (Kd.R_told (Kd.R_old (rk c.out) hb) (Kd.R_base O)) (Kd.R_base P)) (fun _ h_=>h_.1));replace a:=b1 a hb;replace HB:=b2 hb;(try clear hb);(try clear O);(try clear P))|((with_reducible refine gd 5 ?_);refine by_ w 5 #[.bool false,.slice none 0 0,.slice none 0 0] 43 ?_;clear HB;intro aj hg bL d ao hb HB;obtain⟨M,m⟩:=qn hg a;replace c:=rb c hb;replace i:=rb i hb;replace j:=rb j hb;replace a:=b1 a hb;clear hb hg;obtain⟨_,_⟩:=qo m;obtain⟨_,_,_,_,_,_⟩:=cf3 d.out;obtain⟨al,aq,a6⟩:=Kd.R_slice i.out;subst a6;obtain⟨an,ar,a7⟩:=Kd.R_slice j.out;subst a7)|((with_reducible refine gate_builtin (b:=.append) (xs:=#[.tmp 26,.tmp 28]) rfl ?_);at_builtin;refine Kd.R_append (Kd.int .i64) (w0:=w) w.heap.size rfl (.tmp 26) (.tmp 28) 23 3 (.int .i64 0) 8 rfl Tryz.underlying23 info3 rfl (by decide) (by omega) u3 U l [.int .i64 l] (fun k_=>some k_≠(.slice al W.length aq:Value).ownBlock∧some k_≠(.slice an X.length ar:Value).ownBlock) (fun _=>False) rfl (by first|(go_simp;done)|(go_simp;rfl)) ?aP (fun _ hk=>hk.elim) ?aF ?aO ?aB ?aS ?aL ?_;(case aP=>exact rfl);(case aB=>exact bel);(case aF=>exact(fun k_ hk=>⟨Kd.fresh' (Kd.R_lt (kf (Kd.R_types i.out d.out (by decide)) (fun _ h_=>h_.1))) k_ hk,Kd.fresh' (Kd.R_lt (kf (Kd.R_types j.out d.out (by decide)) (fun _ h_=>h_.1))) k_ hk⟩));(case aO=>exact(kf (Kd.R_types c.out d.out (by decide)) (fun _ hk=>⟨hk.1.1.2,hk.1.2⟩)));(case aS=>exact(below_size bel));(case aL=>have:=a0.out;omega);intro bH bM ho hb hg hat;rw[←a1.out]at ho;have ba:=am (blk_grown (g:=au) (o:=.cells #[.slice Y n.length ae,.int .i64 u,.int .i64 v,.int .i64 x,.slice Z p.length af,.bool y,.slice aa q.length ag,.slice ac s.length ah,.slice ad t.length ai] 35 (0,0)) (bk a.out) hg (Kd.R_ne c.out a.out (by decide)));have bc:=am (Kd.R_after (ok:=(fun k_=>some k_≠(.slice an X.length ar:Value).ownBlock)) (kf (Kd.R_types i.out d.out (by decide)) (fun _ hk=>⟨hk.1.1,hk.1.2⟩)) hg hat);have bd:=am (Kd.R_after (ok:=(fun k_=>some k_≠(.slice al W.length aq:Value).ownBlock)) (kf (Kd.R_types j.out d.out (by decide)) (fun _ hk=>⟨hk.1.1,hk.1.2⟩)) hg hat);have be:=am (blk_grown (g:=aj) (o:=.cells #[.bool false,.slice al W.length aq,.slice an X.length ar] 43 (0,0)) (bz d) hg (Kd.R_ne c.out d.out (by decide)));have bf:=am (hb);have bg:=am (ho);clear a;clear i;clear j;clear d;clear HB;clear c;have a:=ba;have i:=bc;have j:=bd;have d:=be;have HB:=bf;have aZ:=bg;clear ba bc bd be bf bg;clear ho hb hg hat))
      go_roundg k1
      case measure=>have:=ak.out;omega
      case rel=>exact⟨(bj),(wrap64 (l+1)),(es),H,⟨by have:=ak.out;omega⟩,⟨by(with_reducible repeat (first|apply Kd.R_alloc|apply Kd.R_drewN|apply Kd.R_drew));exact Kd.R_mono aZ.out (fun _ hk=>trivial)⟩,⟨bk a.out⟩,⟨bel⟩⟩
    ·replace H:=am H
     obtain⟨_,_,_,_,_,_,_,_,_,_,_,_,_,_,_,_,_,_⟩:=cf9 a.out
     go_wp2_with (first|((with_reducible refine gc 14 ?_);refine gl 17 Tryz.func14 (spec_LeadVerdict.calls k1 _ _ n u v x _ _ p y _ _ q _ _ s _ _ t l bh W X false _ (cb G HB) z.out (cb I HB) A.out (cb J HB) B.out (cb K HB) D.out (cb L HB) E.out A7.out) ?_;rintro e bN ⟨aU,aV,rfl,O,P,hb⟩;refine⟨_,rfl,?_⟩;have i:=am (Kd.R_lower (Kd.R_new' O (Kd.R_lt (rk c.out))) (below_size bel));have j:=am (Kd.R_lower (Kd.R_new' P (Kd.R_lt (rk c.out))) (below_size bel));replace c:=am (Kd.R_mono (Kd.R_told (Kd.R_told (Kd.R_old (rk c.out) hb) (Kd.R_base O)) (Kd.R_base P)) (fun _ h_=>h_.1));replace a:=b1 a hb;replace HB:=b2 hb;(try clear hb);(try clear O);(try clear P))|((with_reducible refine gd 5 ?_);refine by_ w 5 #[.bool false,.slice none 0 0,.slice none 0 0] 43 ?_;clear HB;intro aj hg bO d ao hb HB;obtain⟨M,m⟩:=qn hg a;replace c:=rb c hb;replace i:=rb i hb;replace j:=rb j hb;replace a:=b1 a hb;clear hb hg;obtain⟨_,_⟩:=qo m;obtain⟨_,_,_,_,_,_⟩:=cf3 d.out;obtain⟨br,bB,a8⟩:=Kd.R_slice i.out;subst a8;obtain⟨bu,bC,a9⟩:=Kd.R_slice j.out;subst a9))
     go_roundg k1
     case measure=>have:=ak.out;omega
     case rel=>exact⟨(U),(wrap64 (l+1)),(es),H,⟨by have:=ak.out;omega⟩,⟨(kf (Kd.R_types c.out d.out (by decide)) (fun _ hk=>trivial))⟩,⟨bk a.out⟩,⟨bel⟩⟩
   ·obtain rfl:=qj1 H
    go_wp2
    go_ret
    exact⟨_,er,rk c.out,bel⟩
def impl_within.f(a0:Int)(a1:Int)(a2:Int):Option (Bool):=if a1≤a0 then(some (decide (a0≤a2)))else(some false)
theorem impl_within.calls(a0:Int)(a1:Int)(a2:Int)(r:Bool)(w:World)(h:impl_within.f a0 a1 a2=some r):Calls Tryz.prog 72 #[.int .i64 a0,.int .i64 a1,.int .i64 a2] w fun e w'=>e=.returned (.bool r)∧Drawn0 w w':=by
 have H:=h
 unfold impl_within.f at H
 clear h
 replace H:=i1 H;obtain⟨a,H⟩|⟨a,H⟩:=H
 ·obtain rfl:=qj1 H
  go_enter Tryz.func72,Tryz.ntmps72
  go_wp2
  go_ret
  exact⟨es,by repeat (first|exact Drawn0.refl _|apply Drawn0.step)⟩
 ·obtain rfl:=qj1 H
  go_enter Tryz.func72,Tryz.ntmps72
  go_wp2
  go_ret
  exact⟨es,by repeat (first|exact Drawn0.refl _|apply Drawn0.step)⟩
end Go.Proofs.YtgalpgakdcfilaaGreat.L
