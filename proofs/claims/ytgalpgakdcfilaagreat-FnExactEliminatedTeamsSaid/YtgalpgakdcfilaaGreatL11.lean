-- Written by a program of this session (wip/xp.py).
import Derived.Test.YtgalpgakdcfilaaGreatL0
import Derived.Test.YtgalpgakdcfilaaGreatL9
import Derived.Test.YtgalpgakdcfilaaGreatL5
namespace Go.Proofs.YtgalpgakdcfilaaGreat.L
open Go.RowKit Go.Proofs.YtgalpgakdcfilaaGreatW.PrintWords Go.Proofs.YtgalpgakdcfilaaGreatW.PrintLast Go.Proofs.YtgalpgakdcfilaaGreatW.PrintMore
attribute [local go_sem] max2_int min2_int max_two min_two max_three min_three max_four min_four
set_option linter.unusedVariables false
set_option linter.unusedSimpArgs false
set_option maxHeartbeats 8000000
set_option maxRecDepth 100000
def laws_markGameS.l0:Nat→List (S79)→Int→Int→Option (Int×(List (S79)))
  |0,_,_,_=>none
  |k+1,x0,x1,x5=>if x5<(x0.length:Int)then(if 0≤x5 then((some (x0.set (x5:Int).toNat (⟨x1,(rd_T79 x0 x5).f1,(rd_T79 x0 x5).f2,(rd_T79 x0 x5).f3,(rd_T79 x0 x5).f4⟩:S79):List (S79))).bind fun a=>((some (a.set (x5:Int).toNat (⟨(rd_T79 a x5).f0,wrap64 (x1+1),(rd_T79 a x5).f2,(rd_T79 a x5).f3,(rd_T79 a x5).f4⟩:S79):List (S79))).bind fun b=>((some (b.set (x5:Int).toNat (⟨(rd_T79 b x5).f0,(rd_T79 b x5).f1,wrap64 ((wrap64 (x1+1))+1),(rd_T79 b x5).f3,(rd_T79 b x5).f4⟩:S79):List (S79))).bind fun c=>((some (c.set (x5:Int).toNat (⟨(rd_T79 c x5).f0,(rd_T79 c x5).f1,(rd_T79 c x5).f2,wrap64 ((wrap64 ((wrap64 (x1+1))+1))+1),(rd_T79 c x5).f4⟩:S79):List (S79))).bind fun d=>(laws_markGameS.l0 k (d.set (x5:Int).toNat (⟨(rd_T79 d x5).f0,(rd_T79 d x5).f1,(rd_T79 d x5).f2,(rd_T79 d x5).f3,wrap64 ((wrap64 ((wrap64 ((wrap64 (x1+1))+1))+1))+1)⟩:S79)) (wrap64 ((wrap64 ((wrap64 ((wrap64 ((wrap64 (x1+1))+1))+1))+1))+1)) (wrap64 (x5+1)))))))else(none))else(some (x1,x0))
def laws_markGameS.f(k:Nat)(l0:List (S79))(a1:Int):Option (Int×(List (S79))):=laws_markGameS.l0 k l0 a1 0
theorem laws_markGameS.calls(k:Nat)(l:Nat→Prop)(y:Value)(l0:List (S79))(a1:Int)(r1:Int)(r2:List (S79))(w0 w:World)(hB:Below w0.heap.size w0 w)(bL:Kd.R k79 79 w w0.heap.size l y l0)(h:laws_markGameS.f k l0 a1=some (r1,r2)):Calls Tryz.prog 32 #[y,.int .i64 a1] w fun e w'=>e=.returned (.int .i64 r1)∧Kd.R k79 79 w' w0.heap.size (fun k_=>(l k_∨w.heap.size≤k_)) y r2∧Below w0.heap.size w0 w'∧Kept w w' (fun k_=>l k_):=by
 have ba:=am (show Kd.R k79 79 w w0.heap.size (fun k_=>(l k_∨w.heap.size≤k_)) y l0 from Kd.R_mono bL (fun k_ hk=>(.inl hk)))
 have HK:=am (Kept.refl w (fun k_=>l k_))
 have cs:=am hB.size
 have HB:=am hB
 clear hB
 have H:=h
 unfold laws_markGameS.f at H
 clear h
 replace H:=am H
 go_enter Tryz.func32,Tryz.ntmps32
 go_wp2
 go_loopg [1,5] k (fun kq v1 v5 w'=>∃(c:List (S79)) (g:Int) (a:Int),v1=.int .i64 g∧v5=.int .i64 a∧Aside0 (laws_markGameS.l0 kq c g a=some (r1,r2))∧Aside0 (kq≤k)∧Aside0 (Kd.R k79 79 w' w0.heap.size (fun k_=>(l k_∨w.heap.size≤k_)) y c)∧Aside0 (Kept w w' (fun k_=>l k_))∧Aside0 (Below w0.heap.size w0 w'))
 case atStart=>exact⟨(l0),(a1),(0),(es),(es),H,⟨Nat.le_refl _⟩,⟨rk ba.out⟩,⟨by repeat (first|(with_reducible first|exact HK.out|apply Kept.alloc|apply Kept.drewN|apply Kept.drew)|exact HK.out)⟩,⟨bel⟩⟩
 case round=>
  clear H
  obtain⟨c,g,a,rfl,rfl,HA,aS,d,HK,HB⟩:=hrel
  cases gk with
  |zero=>exact absurd HA.out (by simp [laws_markGameS.l0])
  |succ k1=>
   have H:=HA.out
   clear HA
   simp only[laws_markGameS.l0]at H
   replace H:=i1 H;obtain⟨aT,H⟩|⟨aT,H⟩:=H
   ·replace H:=i0 H;obtain⟨cg,H⟩:=H
    replace H:=bs H;obtain⟨m,aL,H⟩:=H
    replace H:=bs H;obtain⟨n,aM,H⟩:=H
    replace H:=bs H;obtain⟨o,aN,H⟩:=H
    replace H:=bs H;obtain⟨i,aO,H⟩:=H
    generalize hy206:(i.set (a:Int).toNat (⟨(rd_T79 i a).f0,(rd_T79 i a).f1,(rd_T79 i a).f2,(rd_T79 i a).f3,wrap64 ((wrap64 ((wrap64 ((wrap64 (g+1))+1))+1))+1)⟩:S79):List (S79))=aK at H
    have aP:=am hy206.symm
    clear hy206
    replace H:=am H
    obtain⟨ce,p,aU⟩:=Kd.R_slice d.out
    subst aU
    have p5:0≤(a:Int):=asm
    have q5:(a:Int)<((c.length:Int):Int):=asm
    obtain⟨b,cz,aW,aX,bc,cy,aR⟩:=Kd.R_form d.out (by omega)
    (first|cases aW|(injection aW with ea_ en_ ec_;(first|subst ea_|(injection ea_ with ea_;subst ea_));subst ec_;clear en_))
    have W:=am aX
    have cq:=am aR
    clear aX bc aR
    have a9:=am (show(l b∨w.heap.size≤b)from(d.out.1 _ rfl))
    obtain⟨ct,a4,aY,z,G⟩:=Kd.R_elem d.out z79 (a:Int) p5 q5
    obtain rfl:=k79_openM aY
    have bM:wr.cell? ⟨b,(a:Int).toNat*5,none⟩=some (.int .i64 ((rd_T79 c a).f0)):=z 0 _ rfl
    have bN:wr.cell? ⟨b,(a:Int).toNat*5+1,none⟩=some (.int .i64 ((rd_T79 c a).f1)):=z 1 _ rfl
    have bO:wr.cell? ⟨b,(a:Int).toNat*5+2,none⟩=some (.int .i64 ((rd_T79 c a).f2)):=z 2 _ rfl
    have bP:wr.cell? ⟨b,(a:Int).toNat*5+3,none⟩=some (.int .i64 ((rd_T79 c a).f3)):=z 3 _ rfl
    have bQ:wr.cell? ⟨b,(a:Int).toNat*5+4,none⟩=some (.int .i64 ((rd_T79 c a).f4)):=z 4 _ rfl
    have bd:wr.frozen? ⟨b,(a:Int).toNat*5,none⟩=false:=G 0
    have be:wr.frozen? ⟨b,(a:Int).toNat*5+1,none⟩=false:=G 1
    have bf:wr.frozen? ⟨b,(a:Int).toNat*5+2,none⟩=false:=G 2
    have bg:wr.frozen? ⟨b,(a:Int).toNat*5+3,none⟩=false:=G 3
    have bh:wr.frozen? ⟨b,(a:Int).toNat*5+4,none⟩=false:=G 4
    clear a4 z G aY
    replace p5:=eq_true p5
    replace q5:=eq_true q5
    have aA:=am (show Kd.R k79 79 wr w0.heap.size (fun k_=>(l k_∨w.heap.size≤k_)) (.slice (some ⟨b,0,none⟩) c.length p) c from(rk d.out))
    obtain⟨ch,ad,aF,M,ai⟩:=Kd.R_elem aA.out z79 (a:Int) (asm) (by have h_:(a:Int)<((c.length:Int):Int):=asm;first|exact h_|(have e_:=(Kd.R_reads' d.out).1;omega)|simpa using h_)
    obtain rfl:=k79_openM aF
    have X:=Kd.R_seg aA.out (a:Int) (asm) (by have h_:(a:Int)<((c.length:Int):Int):=asm;first|exact h_|(have e_:=(Kd.R_reads' d.out).1;omega)|simpa using h_) (seg:=[.int .i64 g]) (j:=0) ad M (show 1≤5 from by decide) (x':=(⟨g,(rd_T79 c a).f1,(rd_T79 c a).f2,(rd_T79 c a).f3,(rd_T79 c a).f4⟩:S79)) (k79_mkM _ _ _ (⟨g,(rd_T79 c a).f1,(rd_T79 c a).f2,(rd_T79 c a).f3,(rd_T79 c a).f4⟩:S79)) (fun _ hk=>hk)
    have av:=M 0 _ rfl
    (try simp only[show(k79).sz=5 from rfl,Nat.mul_one,Nat.add_zero]at av)
    have ao:=ai 0
    (try simp only[show(k79).sz=5 from rfl,Nat.mul_one,Nat.add_zero]at ao)
    clear ad M ai aF
    go_wp2_with (first|((with_reducible refine gs 3 16 ?_);refine sv 3 16 ?_;intro q hw;have hg:wr.grownBy q (some b):=(by rw[hw];exact X.2);have hp_:Kd.R k79 79 q w0.heap.size (fun k_=>(l k_∨w.heap.size≤k_)) (.slice (some ⟨b,0,none⟩) c.length p) m:=(by rw[hw,aL.out];exact X.1);clear X;have u:=am (hp_);have v:=am ((by rw[hw];exact below_set (HB.out) W.out:Below w0.heap.size w0 q));have x:=am (Kept.of_grown (S:=(fun k_=>l k_)) hg (by repeat (first|(with_reducible first|exact HK.out|apply Kept.alloc|apply Kept.drewN|apply Kept.drew)|exact HK.out)) (fun k_ e_=>(d.out.1 k_ e_)));clear d;clear HB;clear HK;have d:=u;have HB:=v;have HK:=x;clear u v x;clear hg hw hp_;have:(0≤(a:Int))=True:=ab;have:((a:Int)<((c.length:Int):Int))=True:=ab;obtain⟨cu,a5,aZ,A,I⟩:=Kd.R_elem d.out z79 (a:Int) asm asm;obtain rfl:=k79_openM aZ;have bR:q.cell? ⟨b,(a:Int).toNat*5,none⟩=some (.int .i64 ((rd_T79 m a).f0)):=A 0 _ rfl;have bS:q.cell? ⟨b,(a:Int).toNat*5+1,none⟩=some (.int .i64 ((rd_T79 m a).f1)):=A 1 _ rfl;have bT:q.cell? ⟨b,(a:Int).toNat*5+2,none⟩=some (.int .i64 ((rd_T79 m a).f2)):=A 2 _ rfl;have bU:q.cell? ⟨b,(a:Int).toNat*5+3,none⟩=some (.int .i64 ((rd_T79 m a).f3)):=A 3 _ rfl;have bV:q.cell? ⟨b,(a:Int).toNat*5+4,none⟩=some (.int .i64 ((rd_T79 m a).f4)):=A 4 _ rfl;have bi:q.frozen? ⟨b,(a:Int).toNat*5,none⟩=false:=I 0;have bj:q.frozen? ⟨b,(a:Int).toNat*5+1,none⟩=false:=I 1;have bl:q.frozen? ⟨b,(a:Int).toNat*5+2,none⟩=false:=I 2;have bn:q.frozen? ⟨b,(a:Int).toNat*5+3,none⟩=false:=I 3;have bo:q.frozen? ⟨b,(a:Int).toNat*5+4,none⟩=false:=I 4;clear a5 A I;(try clear aZ);have aB:=am (show Kd.R k79 79 q w0.heap.size (fun k_=>(l k_∨w.heap.size≤k_)) (.slice (some ⟨b,0,none⟩) c.length p) m from(rk d.out));obtain⟨ci,ae,aG,O,aj⟩:=Kd.R_elem aB.out z79 (a:Int) (asm) (by have h_:(a:Int)<((c.length:Int):Int):=asm;first|exact h_|(have e_:=(Kd.R_reads' d.out).1;omega)|simpa using h_);obtain rfl:=k79_openM aG;have Y:=Kd.R_seg aB.out (a:Int) (asm) (by have h_:(a:Int)<((c.length:Int):Int):=asm;first|exact h_|(have e_:=(Kd.R_reads' d.out).1;omega)|simpa using h_) (seg:=[.int .i64 (wrap64 (g+1))]) (j:=1) ae O (show 2≤5 from by decide) (x':=(⟨(rd_T79 m a).f0,wrap64 (g+1),(rd_T79 m a).f2,(rd_T79 m a).f3,(rd_T79 m a).f4⟩:S79)) (k79_mkM _ _ _ (⟨(rd_T79 m a).f0,wrap64 (g+1),(rd_T79 m a).f2,(rd_T79 m a).f3,(rd_T79 m a).f4⟩:S79)) (fun _ hk=>hk);have aw:=O 1 _ rfl;(try simp only[show(k79).sz=5 from rfl,Nat.mul_one,Nat.add_zero]at aw);have ap:=aj 1;(try simp only[show(k79).sz=5 from rfl,Nat.mul_one,Nat.add_zero]at ap);clear ae O aj aG)|((with_reducible refine gs 3 23 ?_);refine sv 3 23 ?_;intro r hw;have hg:q.grownBy r (some b):=(by rw[hw];exact Y.2);have hp_:Kd.R k79 79 r w0.heap.size (fun k_=>(l k_∨w.heap.size≤k_)) (.slice (some ⟨b,0,none⟩) c.length p) n:=(by rw[hw,aM.out];exact Y.1);clear Y;have u:=am (hp_);have v:=am ((by rw[hw];exact below_set (HB.out) W.out:Below w0.heap.size w0 r));have x:=am (Kept.of_grown (S:=(fun k_=>l k_)) hg (by repeat (first|(with_reducible first|exact HK.out|apply Kept.alloc|apply Kept.drewN|apply Kept.drew)|exact HK.out)) (fun k_ e_=>(d.out.1 k_ e_)));clear d;clear HB;clear HK;have d:=u;have HB:=v;have HK:=x;clear u v x;clear hg hw hp_;have:(0≤(a:Int))=True:=ab;have:((a:Int)<((c.length:Int):Int))=True:=ab;obtain⟨cv,a6,a0,B,J⟩:=Kd.R_elem d.out z79 (a:Int) asm asm;obtain rfl:=k79_openM a0;have bW:r.cell? ⟨b,(a:Int).toNat*5,none⟩=some (.int .i64 ((rd_T79 n a).f0)):=B 0 _ rfl;have bX:r.cell? ⟨b,(a:Int).toNat*5+1,none⟩=some (.int .i64 ((rd_T79 n a).f1)):=B 1 _ rfl;have bY:r.cell? ⟨b,(a:Int).toNat*5+2,none⟩=some (.int .i64 ((rd_T79 n a).f2)):=B 2 _ rfl;have bZ:r.cell? ⟨b,(a:Int).toNat*5+3,none⟩=some (.int .i64 ((rd_T79 n a).f3)):=B 3 _ rfl;have b0:r.cell? ⟨b,(a:Int).toNat*5+4,none⟩=some (.int .i64 ((rd_T79 n a).f4)):=B 4 _ rfl;have bp:r.frozen? ⟨b,(a:Int).toNat*5,none⟩=false:=J 0;have br:r.frozen? ⟨b,(a:Int).toNat*5+1,none⟩=false:=J 1;have bu:r.frozen? ⟨b,(a:Int).toNat*5+2,none⟩=false:=J 2;have bw:r.frozen? ⟨b,(a:Int).toNat*5+3,none⟩=false:=J 3;have bA:r.frozen? ⟨b,(a:Int).toNat*5+4,none⟩=false:=J 4;clear a6 B J;(try clear a0);have aC:=am (show Kd.R k79 79 r w0.heap.size (fun k_=>(l k_∨w.heap.size≤k_)) (.slice (some ⟨b,0,none⟩) c.length p) n from(rk d.out));obtain⟨cj,af,aH,P,ak⟩:=Kd.R_elem aC.out z79 (a:Int) (asm) (by have h_:(a:Int)<((c.length:Int):Int):=asm;first|exact h_|(have e_:=(Kd.R_reads' d.out).1;omega)|simpa using h_);obtain rfl:=k79_openM aH;have Z:=Kd.R_seg aC.out (a:Int) (asm) (by have h_:(a:Int)<((c.length:Int):Int):=asm;first|exact h_|(have e_:=(Kd.R_reads' d.out).1;omega)|simpa using h_) (seg:=[.int .i64 (wrap64 ((wrap64 (g+1))+1))]) (j:=2) af P (show 3≤5 from by decide) (x':=(⟨(rd_T79 n a).f0,(rd_T79 n a).f1,wrap64 ((wrap64 (g+1))+1),(rd_T79 n a).f3,(rd_T79 n a).f4⟩:S79)) (k79_mkM _ _ _ (⟨(rd_T79 n a).f0,(rd_T79 n a).f1,wrap64 ((wrap64 (g+1))+1),(rd_T79 n a).f3,(rd_T79 n a).f4⟩:S79)) (fun _ hk=>hk);have ax:=P 2 _ rfl;(try simp only[show(k79).sz=5 from rfl,Nat.mul_one,Nat.add_zero]at ax);have aq:=ak 2;(try simp only[show(k79).sz=5 from rfl,Nat.mul_one,Nat.add_zero]at aq);clear af P ak aH)|((with_reducible refine gs 3 30 ?_);refine sv 3 30 ?_;intro s hw;have hg:r.grownBy s (some b):=(by rw[hw];exact Z.2);have hp_:Kd.R k79 79 s w0.heap.size (fun k_=>(l k_∨w.heap.size≤k_)) (.slice (some ⟨b,0,none⟩) c.length p) o:=(by rw[hw,aN.out];exact Z.1);clear Z;have u:=am (hp_);have v:=am ((by rw[hw];exact below_set (HB.out) W.out:Below w0.heap.size w0 s));have x:=am (Kept.of_grown (S:=(fun k_=>l k_)) hg (by repeat (first|(with_reducible first|exact HK.out|apply Kept.alloc|apply Kept.drewN|apply Kept.drew)|exact HK.out)) (fun k_ e_=>(d.out.1 k_ e_)));clear d;clear HB;clear HK;have d:=u;have HB:=v;have HK:=x;clear u v x;clear hg hw hp_;have:(0≤(a:Int))=True:=ab;have:((a:Int)<((c.length:Int):Int))=True:=ab;obtain⟨cw,a7,a2,D,K⟩:=Kd.R_elem d.out z79 (a:Int) asm asm;obtain rfl:=k79_openM a2;have b3:s.cell? ⟨b,(a:Int).toNat*5,none⟩=some (.int .i64 ((rd_T79 o a).f0)):=D 0 _ rfl;have b4:s.cell? ⟨b,(a:Int).toNat*5+1,none⟩=some (.int .i64 ((rd_T79 o a).f1)):=D 1 _ rfl;have b5:s.cell? ⟨b,(a:Int).toNat*5+2,none⟩=some (.int .i64 ((rd_T79 o a).f2)):=D 2 _ rfl;have b6:s.cell? ⟨b,(a:Int).toNat*5+3,none⟩=some (.int .i64 ((rd_T79 o a).f3)):=D 3 _ rfl;have b7:s.cell? ⟨b,(a:Int).toNat*5+4,none⟩=some (.int .i64 ((rd_T79 o a).f4)):=D 4 _ rfl;have bB:s.frozen? ⟨b,(a:Int).toNat*5,none⟩=false:=K 0;have bC:s.frozen? ⟨b,(a:Int).toNat*5+1,none⟩=false:=K 1;have bD:s.frozen? ⟨b,(a:Int).toNat*5+2,none⟩=false:=K 2;have bE:s.frozen? ⟨b,(a:Int).toNat*5+3,none⟩=false:=K 3;have bF:s.frozen? ⟨b,(a:Int).toNat*5+4,none⟩=false:=K 4;clear a7 D K;(try clear a2);have aD:=am (show Kd.R k79 79 s w0.heap.size (fun k_=>(l k_∨w.heap.size≤k_)) (.slice (some ⟨b,0,none⟩) c.length p) o from(rk d.out));obtain⟨cn,ag,aI,T,al⟩:=Kd.R_elem aD.out z79 (a:Int) (asm) (by have h_:(a:Int)<((c.length:Int):Int):=asm;first|exact h_|(have e_:=(Kd.R_reads' d.out).1;omega)|simpa using h_);obtain rfl:=k79_openM aI;have aa:=Kd.R_seg aD.out (a:Int) (asm) (by have h_:(a:Int)<((c.length:Int):Int):=asm;first|exact h_|(have e_:=(Kd.R_reads' d.out).1;omega)|simpa using h_) (seg:=[.int .i64 (wrap64 ((wrap64 ((wrap64 (g+1))+1))+1))]) (j:=3) ag T (show 4≤5 from by decide) (x':=(⟨(rd_T79 o a).f0,(rd_T79 o a).f1,(rd_T79 o a).f2,wrap64 ((wrap64 ((wrap64 (g+1))+1))+1),(rd_T79 o a).f4⟩:S79)) (k79_mkM _ _ _ (⟨(rd_T79 o a).f0,(rd_T79 o a).f1,(rd_T79 o a).f2,wrap64 ((wrap64 ((wrap64 (g+1))+1))+1),(rd_T79 o a).f4⟩:S79)) (fun _ hk=>hk);have ay:=T 3 _ rfl;(try simp only[show(k79).sz=5 from rfl,Nat.mul_one,Nat.add_zero]at ay);have ar:=al 3;(try simp only[show(k79).sz=5 from rfl,Nat.mul_one,Nat.add_zero]at ar);clear ag T al aI)|((with_reducible refine gs 3 37 ?_);refine sv 3 37 ?_;intro t hw;have hg:s.grownBy t (some b):=(by rw[hw];exact aa.2);have hp_:Kd.R k79 79 t w0.heap.size (fun k_=>(l k_∨w.heap.size≤k_)) (.slice (some ⟨b,0,none⟩) c.length p) i:=(by rw[hw,aO.out];exact aa.1);clear aa;have u:=am (hp_);have v:=am ((by rw[hw];exact below_set (HB.out) W.out:Below w0.heap.size w0 t));have x:=am (Kept.of_grown (S:=(fun k_=>l k_)) hg (by repeat (first|(with_reducible first|exact HK.out|apply Kept.alloc|apply Kept.drewN|apply Kept.drew)|exact HK.out)) (fun k_ e_=>(d.out.1 k_ e_)));clear d;clear HB;clear HK;have d:=u;have HB:=v;have HK:=x;clear u v x;clear hg hw hp_;have:(0≤(a:Int))=True:=ab;have:((a:Int)<((c.length:Int):Int))=True:=ab;obtain⟨cx,a8,a3,E,L⟩:=Kd.R_elem d.out z79 (a:Int) asm asm;obtain rfl:=k79_openM a3;have b8:t.cell? ⟨b,(a:Int).toNat*5,none⟩=some (.int .i64 ((rd_T79 i a).f0)):=E 0 _ rfl;have b9:t.cell? ⟨b,(a:Int).toNat*5+1,none⟩=some (.int .i64 ((rd_T79 i a).f1)):=E 1 _ rfl;have ca:t.cell? ⟨b,(a:Int).toNat*5+2,none⟩=some (.int .i64 ((rd_T79 i a).f2)):=E 2 _ rfl;have cc:t.cell? ⟨b,(a:Int).toNat*5+3,none⟩=some (.int .i64 ((rd_T79 i a).f3)):=E 3 _ rfl;have cd:t.cell? ⟨b,(a:Int).toNat*5+4,none⟩=some (.int .i64 ((rd_T79 i a).f4)):=E 4 _ rfl;have bG:t.frozen? ⟨b,(a:Int).toNat*5,none⟩=false:=L 0;have bH:t.frozen? ⟨b,(a:Int).toNat*5+1,none⟩=false:=L 1;have bI:t.frozen? ⟨b,(a:Int).toNat*5+2,none⟩=false:=L 2;have bJ:t.frozen? ⟨b,(a:Int).toNat*5+3,none⟩=false:=L 3;have bK:t.frozen? ⟨b,(a:Int).toNat*5+4,none⟩=false:=L 4;clear a8 E L;(try clear a3);have aE:=am (show Kd.R k79 79 t w0.heap.size (fun k_=>(l k_∨w.heap.size≤k_)) (.slice (some ⟨b,0,none⟩) c.length p) i from(rk d.out));obtain⟨co,ah,aJ,U,an⟩:=Kd.R_elem aE.out z79 (a:Int) (asm) (by have h_:(a:Int)<((c.length:Int):Int):=asm;first|exact h_|(have e_:=(Kd.R_reads' d.out).1;omega)|simpa using h_);obtain rfl:=k79_openM aJ;have ac:=Kd.R_seg aE.out (a:Int) (asm) (by have h_:(a:Int)<((c.length:Int):Int):=asm;first|exact h_|(have e_:=(Kd.R_reads' d.out).1;omega)|simpa using h_) (seg:=[.int .i64 (wrap64 ((wrap64 ((wrap64 ((wrap64 (g+1))+1))+1))+1))]) (j:=4) ah U (show 5≤5 from by decide) (x':=(⟨(rd_T79 i a).f0,(rd_T79 i a).f1,(rd_T79 i a).f2,(rd_T79 i a).f3,wrap64 ((wrap64 ((wrap64 ((wrap64 (g+1))+1))+1))+1)⟩:S79)) (k79_mkM _ _ _ (⟨(rd_T79 i a).f0,(rd_T79 i a).f1,(rd_T79 i a).f2,(rd_T79 i a).f3,wrap64 ((wrap64 ((wrap64 ((wrap64 (g+1))+1))+1))+1)⟩:S79)) (fun _ hk=>hk);have az:=U 4 _ rfl;(try simp only[show(k79).sz=5 from rfl,Nat.mul_one,Nat.add_zero]at az);have au:=an 4;(try simp only[show(k79).sz=5 from rfl,Nat.mul_one,Nat.add_zero]at au);clear ah U an aJ)|((with_reducible refine gs 3 44 ?_);refine sv 3 44 ?_;intro aQ hw;have hg:t.grownBy aQ (some b):=(by rw[hw];exact ac.2);have hp_:Kd.R k79 79 aQ w0.heap.size (fun k_=>(l k_∨w.heap.size≤k_)) (.slice (some ⟨b,0,none⟩) c.length p) aK:=(by rw[hw,aP.out];exact ac.1);clear ac;have u:=am (hp_);have v:=am ((by rw[hw];exact below_set (HB.out) W.out:Below w0.heap.size w0 aQ));have x:=am (Kept.of_grown (S:=(fun k_=>l k_)) hg (by repeat (first|(with_reducible first|exact HK.out|apply Kept.alloc|apply Kept.drewN|apply Kept.drew)|exact HK.out)) (fun k_ e_=>(d.out.1 k_ e_)));clear d;clear HB;clear HK;have d:=u;have HB:=v;have HK:=x;clear u v x;clear hg hw hp_))
    go_roundg k1
    case measure=>have:=aS.out;omega
    case rel=>exact⟨(aK),(wrap64 ((wrap64 ((wrap64 ((wrap64 ((wrap64 (g+1))+1))+1))+1))+1)),(wrap64 (a+1)),(es),(es),H,⟨by have:=aS.out;omega⟩,⟨rk d.out⟩,⟨by repeat (first|(with_reducible first|exact HK.out|apply Kept.alloc|apply Kept.drewN|apply Kept.drew)|exact HK.out)⟩,⟨bel⟩⟩
   ·obtain⟨rfl,rfl⟩:=qj2 H
    obtain⟨cf,cp,aV⟩:=Kd.R_slice d.out
    subst aV
    go_wp2
    go_ret
    exact⟨er,rk d.out,bel,by repeat (first|(with_reducible first|exact HK.out|apply Kept.alloc|apply Kept.drewN|apply Kept.drew)|exact HK.out)⟩
def laws_markBook.f(k:Nat)(l:List (S83))(g:Int)(h:Int)(i:Int)(m:List Int)(j:Bool)(n:List (S79))(o:List Int)(p:List Int)(a1:Int):Option (Int×(List (S83))×List Int×(List (S79))×List Int×List Int):=(laws_markTeamS.f k l a1).bind fun a=>((laws_markRules.f k g h i m j a.1).bind fun b=>((laws_markGameS.f k n b.1).bind fun c=>((laws_markIntS.f k o c.1).bind fun d=>((laws_markIntS.f k p d.1).bind fun e=>(some (e.1,a.2,b.2,c.2,d.2,e.2))))))
theorem laws_markBook.calls(k:Nat)(d:Nat→Prop)(O:Value)(W:List (S83))(ai:Int)(aj:Int)(ak:Int)(a:Nat→Prop)(x:Value)(p:List Int)(al:Bool)(g:Nat→Prop)(P:Value)(X:List (S79))(b:Nat→Prop)(y:Value)(q:List Int)(c:Nat→Prop)(z:Value)(r:List Int)(a1:Int)(r1:Int)(r2:List (S83))(r3:List Int)(r4:List (S79))(r5:List Int)(r6:List Int)(w0 w:World)(hB:Below w0.heap.size w0 w)(ay:Kd.R k83 83 w w0.heap.size d O W)(Y:Kd.R (Kd.int .i64) 3 w w0.heap.size a x p)(ac:∀k_,a k_→¬b k_)(ad:∀k_,a k_→¬c k_)(az:Kd.R k79 79 w w0.heap.size g P X)(Z:Kd.R (Kd.int .i64) 3 w w0.heap.size b y q)(ae:∀k_,b k_→¬a k_)(af:∀k_,b k_→¬c k_)(aa:Kd.R (Kd.int .i64) 3 w w0.heap.size c z r)(ag:∀k_,c k_→¬a k_)(ah:∀k_,c k_→¬b k_)(h:laws_markBook.f k W ai aj ak p al X q r a1=some (r1,r2,r3,r4,r5,r6)):Calls Tryz.prog 11 #[.agg #[O,.int .i64 ai,.int .i64 aj,.int .i64 ak,x,.bool al,P,y,z],.int .i64 a1] w fun e w'=>e=.returned (.int .i64 r1)∧Kd.R k83 83 w' w0.heap.size (fun k_=>((d k_∨a k_∨g k_∨b k_∨c k_)∨w.heap.size≤k_)) O r2∧Kd.R (Kd.int .i64) 3 w' w0.heap.size (fun k_=>((d k_∨a k_∨g k_∨b k_∨c k_)∨w.heap.size≤k_)) x r3∧Kd.R k79 79 w' w0.heap.size (fun k_=>((d k_∨a k_∨g k_∨b k_∨c k_)∨w.heap.size≤k_)) P r4∧Kd.R (Kd.int .i64) 3 w' w0.heap.size (fun k_=>((d k_∨a k_∨g k_∨b k_∨c k_)∨w.heap.size≤k_)) y r5∧Kd.R (Kd.int .i64) 3 w' w0.heap.size (fun k_=>((d k_∨a k_∨g k_∨b k_∨c k_)∨w.heap.size≤k_)) z r6∧Below w0.heap.size w0 w'∧Kept w w' (fun k_=>d k_∨a k_∨g k_∨b k_∨c k_):=by
 have aN:=Tryz.underlying35
 have aM:=Tryz.underlying32
 have i:=am (show Kd.R k83 83 w w0.heap.size (fun k_=>((d k_∨a k_∨g k_∨b k_∨c k_)∨w.heap.size≤k_)) O W from Kd.R_mono ay (fun k_ hk=>(.inl (.inl hk))))
 have m:=am (show Kd.R (Kd.int .i64) 3 w w0.heap.size (fun k_=>((d k_∨a k_∨g k_∨b k_∨c k_)∨w.heap.size≤k_)∧some k_≠(y:Value).ownBlock∧some k_≠(z:Value).ownBlock) x p from Kd.R_mono Y (fun k_ hk=>⟨(.inl (.inr (.inl hk))),fun e_=>ac k_ hk (Z.1 k_ e_.symm),fun e_=>ad k_ hk (aa.1 k_ e_.symm)⟩))
 have j:=am (show Kd.R k79 79 w w0.heap.size (fun k_=>((d k_∨a k_∨g k_∨b k_∨c k_)∨w.heap.size≤k_)) P X from Kd.R_mono az (fun k_ hk=>(.inl (.inr (.inr (.inl hk))))))
 have n:=am (show Kd.R (Kd.int .i64) 3 w w0.heap.size (fun k_=>((d k_∨a k_∨g k_∨b k_∨c k_)∨w.heap.size≤k_)∧some k_≠(x:Value).ownBlock∧some k_≠(z:Value).ownBlock) y q from Kd.R_mono Z (fun k_ hk=>⟨(.inl (.inr (.inr (.inr (.inl hk))))),fun e_=>ae k_ hk (Y.1 k_ e_.symm),fun e_=>af k_ hk (aa.1 k_ e_.symm)⟩))
 have o:=am (show Kd.R (Kd.int .i64) 3 w w0.heap.size (fun k_=>((d k_∨a k_∨g k_∨b k_∨c k_)∨w.heap.size≤k_)∧some k_≠(x:Value).ownBlock∧some k_≠(y:Value).ownBlock) z r from Kd.R_mono aa (fun k_ hk=>⟨(.inl (.inr (.inr (.inr (.inr hk))))),fun e_=>ag k_ hk (Y.1 k_ e_.symm),fun e_=>ah k_ hk (Z.1 k_ e_.symm)⟩))
 have HK:=am (Kept.refl w (fun k_=>d k_∨a k_∨g k_∨b k_∨c k_))
 have aO:=am hB.size
 have HB:=am hB
 clear hB
 have H:=h
 unfold laws_markBook.f at H
 clear h
 replace H:=bm H;obtain⟨⟨aq,aD⟩,A3,H⟩:=H;dsimp only at H
 replace H:=bm H;obtain⟨⟨ar,aE⟩,A4,H⟩:=H;dsimp only at H
 replace H:=bm H;obtain⟨⟨au,aF⟩,A5,H⟩:=H;dsimp only at H
 replace H:=bm H;obtain⟨⟨av,aG⟩,A6,H⟩:=H;dsimp only at H
 replace H:=bm H;obtain⟨⟨aH,aI⟩,A7,H⟩:=H;dsimp only at H
 obtain⟨rfl,rfl,rfl,rfl,rfl,rfl⟩:=qj6 H
 obtain⟨aw,ax,aK⟩:=Kd.R_slice i.out
 subst aK
 obtain⟨T,U,aL⟩:=Kd.R_slice m.out
 subst aL
 obtain⟨an,ao,aA⟩:=Kd.R_slice j.out
 subst aA
 obtain⟨s,u,aB⟩:=Kd.R_slice n.out
 subst aB
 obtain⟨t,v,aC⟩:=Kd.R_slice o.out
 subst aC
 go_enter Tryz.func11,Tryz.ntmps11
 go_wp2_with (first|((with_reducible refine gd 2 ?_);refine bv 2 #[.slice aw W.length ax,.int .i64 ai,.int .i64 aj,.int .i64 ak,.slice T p.length U,.bool al,.slice an X.length ao,.slice s q.length u,.slice t r.length v] 35 ?_;intro ap hg aP hbox hb;have l:=am (hbox);have M:=am ((by rw[hg];exact(by first|exact HK.out.1|exact(show Kept w _ (fun k_=>d k_∨a k_∨g k_∨b k_∨c k_)from by repeat (first|(with_reducible first|exact HK.out|apply Kept.alloc|apply Kept.drewN|apply Kept.drew)|exact HK.out)).1):w.heap.size≤ap));have aJ:=am ((bsz hg:w0.heap.size≤ap));replace i:=rb i hb;replace m:=rb m hb;replace j:=rb j hb;replace n:=rb n hb;replace o:=rb o hb;replace HK:=am (Kept.below (S:=(fun k_=>d k_∨a k_∨g k_∨b k_∨c k_)) (by repeat (first|(with_reducible first|exact HK.out|apply Kept.alloc|apply Kept.drewN|apply Kept.drew)|exact HK.out)) hb);replace HB:=b2 hb;clear hb hbox hg;obtain⟨_,_,_,_,_,_,_,_,_,_,_,_,_,_,_,_,_,_⟩:=cf9 l.out)|((with_reducible refine gc 30 ?_);refine gl 8 Tryz.func30 (laws_markTeamS.calls k (fun k_=>some k_=(.slice aw W.length ax:Value).ownBlock) (.slice aw W.length ax) W a1 aq aD w0 _ bel (Kd.R_tight rfl i.out) A3.out) ?_;rintro e aQ ⟨rfl,A,hb,hkp⟩;refine⟨_,rfl,?_⟩;have B:=am (Kd.R_reok rfl A (fun k_ e_=>i.out.1 k_ e_));have D:=am (Kd.R_mono (ok':=fun k_=>((d k_∨a k_∨g k_∨b k_∨c k_)∨w.heap.size≤k_)∧some k_≠(.slice s q.length u:Value).ownBlock∧some k_≠(.slice t r.length v:Value).ownBlock) (Kd.R_keptB ((Kd.R_apart' m.out (Kd.R_typed i.out) (by decide))) hkp (fun k_ hk_ hs_=>(hk_.2) hs_)) (fun k_ hk_=>⟨hk_.1.1.1,hk_.1.1.2.1,hk_.1.1.2.2⟩));have E:=am (Kd.R_mono (ok':=fun k_=>((d k_∨a k_∨g k_∨b k_∨c k_)∨w.heap.size≤k_)) (Kd.R_keptB ((Kd.R_apart' j.out (Kd.R_typed i.out) (by decide))) hkp (fun k_ hk_ hs_=>(hk_.2) hs_)) (fun k_ hk_=>hk_.1.1));have G:=am (Kd.R_mono (ok':=fun k_=>((d k_∨a k_∨g k_∨b k_∨c k_)∨w.heap.size≤k_)∧some k_≠(.slice T p.length U:Value).ownBlock∧some k_≠(.slice t r.length v:Value).ownBlock) (Kd.R_keptB ((Kd.R_apart' n.out (Kd.R_typed i.out) (by decide))) hkp (fun k_ hk_ hs_=>(hk_.2) hs_)) (fun k_ hk_=>⟨hk_.1.1.1,hk_.1.1.2.1,hk_.1.1.2.2⟩));have I:=am (Kd.R_mono (ok':=fun k_=>((d k_∨a k_∨g k_∨b k_∨c k_)∨w.heap.size≤k_)∧some k_≠(.slice T p.length U:Value).ownBlock∧some k_≠(.slice s q.length u:Value).ownBlock) (Kd.R_keptB ((Kd.R_apart' o.out (Kd.R_typed i.out) (by decide))) hkp (fun k_ hk_ hs_=>(hk_.2) hs_)) (fun k_ hk_=>⟨hk_.1.1.1,hk_.1.1.2.1,hk_.1.1.2.2⟩));have J:=am (blk_kept (bk l.out) hkp (fun hs_=>(fun e_=>(Kd.R_ne i.out l.out (by decide)) e_) hs_));have K:=am (Kept.then_ (S:=(fun k_=>d k_∨a k_∨g k_∨b k_∨c k_)) (by repeat (first|(with_reducible first|exact HK.out|apply Kept.alloc|apply Kept.drewN|apply Kept.drew|refine Kept.setCell ?_ (.inr M.out) _)|exact HK.out)) hkp (fun k_ hs_=>(fun e_=>(i.out.1 k_ e_.symm)) hs_));have L:=am (hb);clear i;clear m;clear j;clear n;clear o;clear l;clear HK;clear HB;have i:=B;have m:=D;have j:=E;have n:=G;have o:=I;have l:=J;have HK:=K;have HB:=L;clear B D E G I J K L;(try clear hb);(try clear hkp);(try clear A);obtain⟨_,_,_,_,_,_,_,_,_,_,_,_,_,_,_,_,_,_⟩:=cf9 l.out)|((with_reducible refine gc 31 ?_);refine gl 12 Tryz.func31 (laws_markRules.calls k ai aj ak (fun k_=>some k_=(.slice T p.length U:Value).ownBlock) (.slice T p.length U) p al aq ar aE w0 _ bel (Kd.R_tight rfl m.out) A4.out) ?_;rintro e aR ⟨rfl,A,hb,hkp⟩;refine⟨_,rfl,?_⟩;have B:=am (Kd.R_mono (ok':=fun k_=>((d k_∨a k_∨g k_∨b k_∨c k_)∨w.heap.size≤k_)) (Kd.R_keptB ((Kd.R_apart' i.out (Kd.R_typed m.out) (by decide))) hkp (fun k_ hk_ hs_=>(hk_.2) hs_)) (fun k_ hk_=>hk_.1.1));have D:=am (Kd.R_reok rfl A (fun k_ e_=>m.out.1 k_ e_));have E:=am (Kd.R_mono (ok':=fun k_=>((d k_∨a k_∨g k_∨b k_∨c k_)∨w.heap.size≤k_)) (Kd.R_keptB ((Kd.R_apart' j.out (Kd.R_typed m.out) (by decide))) hkp (fun k_ hk_ hs_=>(hk_.2) hs_)) (fun k_ hk_=>hk_.1.1));have G:=am (Kd.R_mono (ok':=fun k_=>((d k_∨a k_∨g k_∨b k_∨c k_)∨w.heap.size≤k_)∧some k_≠(.slice T p.length U:Value).ownBlock∧some k_≠(.slice t r.length v:Value).ownBlock) (Kd.R_keptB (n.out) hkp (fun k_ hk_ hs_=>(hk_.2.1) hs_)) (fun k_ hk_=>⟨hk_.1.1,hk_.1.2.1,hk_.1.2.2⟩));have I:=am (Kd.R_mono (ok':=fun k_=>((d k_∨a k_∨g k_∨b k_∨c k_)∨w.heap.size≤k_)∧some k_≠(.slice T p.length U:Value).ownBlock∧some k_≠(.slice s q.length u:Value).ownBlock) (Kd.R_keptB (o.out) hkp (fun k_ hk_ hs_=>(hk_.2.1) hs_)) (fun k_ hk_=>⟨hk_.1.1,hk_.1.2.1,hk_.1.2.2⟩));have J:=am (blk_kept (bk l.out) hkp (fun hs_=>(fun e_=>(Kd.R_ne m.out l.out (by decide)) e_) hs_));have K:=am (Kept.then_ (S:=(fun k_=>d k_∨a k_∨g k_∨b k_∨c k_)) (by repeat (first|(with_reducible first|exact HK.out|apply Kept.alloc|apply Kept.drewN|apply Kept.drew|refine Kept.setCell ?_ (.inr M.out) _)|exact HK.out)) hkp (fun k_ hs_=>(fun e_=>(m.out.1 k_ e_.symm).1) hs_));have L:=am (hb);clear i;clear m;clear j;clear n;clear o;clear l;clear HK;clear HB;have i:=B;have m:=D;have j:=E;have n:=G;have o:=I;have l:=J;have HK:=K;have HB:=L;clear B D E G I J K L;(try clear hb);(try clear hkp);(try clear A);obtain⟨_,_,_,_,_,_,_,_,_,_,_,_,_,_,_,_,_,_⟩:=cf9 l.out)|((with_reducible refine gc 32 ?_);refine gl 16 Tryz.func32 (laws_markGameS.calls k (fun k_=>some k_=(.slice an X.length ao:Value).ownBlock) (.slice an X.length ao) X ar au aF w0 _ bel (Kd.R_tight rfl j.out) A5.out) ?_;rintro e aS ⟨rfl,A,hb,hkp⟩;refine⟨_,rfl,?_⟩;have B:=am (Kd.R_mono (ok':=fun k_=>((d k_∨a k_∨g k_∨b k_∨c k_)∨w.heap.size≤k_)) (Kd.R_keptB ((Kd.R_apart' i.out (Kd.R_typed j.out) (by decide))) hkp (fun k_ hk_ hs_=>(hk_.2) hs_)) (fun k_ hk_=>hk_.1.1));have D:=am (Kd.R_mono (ok':=fun k_=>((d k_∨a k_∨g k_∨b k_∨c k_)∨w.heap.size≤k_)∧some k_≠(.slice s q.length u:Value).ownBlock∧some k_≠(.slice t r.length v:Value).ownBlock) (Kd.R_keptB ((Kd.R_apart' m.out (Kd.R_typed j.out) (by decide))) hkp (fun k_ hk_ hs_=>(hk_.2) hs_)) (fun k_ hk_=>⟨hk_.1.1.1,hk_.1.1.2.1,hk_.1.1.2.2⟩));have E:=am (Kd.R_reok rfl A (fun k_ e_=>j.out.1 k_ e_));have G:=am (Kd.R_mono (ok':=fun k_=>((d k_∨a k_∨g k_∨b k_∨c k_)∨w.heap.size≤k_)∧some k_≠(.slice T p.length U:Value).ownBlock∧some k_≠(.slice t r.length v:Value).ownBlock) (Kd.R_keptB ((Kd.R_apart' n.out (Kd.R_typed j.out) (by decide))) hkp (fun k_ hk_ hs_=>(hk_.2) hs_)) (fun k_ hk_=>⟨hk_.1.1.1,hk_.1.1.2.1,hk_.1.1.2.2⟩));have I:=am (Kd.R_mono (ok':=fun k_=>((d k_∨a k_∨g k_∨b k_∨c k_)∨w.heap.size≤k_)∧some k_≠(.slice T p.length U:Value).ownBlock∧some k_≠(.slice s q.length u:Value).ownBlock) (Kd.R_keptB ((Kd.R_apart' o.out (Kd.R_typed j.out) (by decide))) hkp (fun k_ hk_ hs_=>(hk_.2) hs_)) (fun k_ hk_=>⟨hk_.1.1.1,hk_.1.1.2.1,hk_.1.1.2.2⟩));have J:=am (blk_kept (bk l.out) hkp (fun hs_=>(fun e_=>(Kd.R_ne j.out l.out (by decide)) e_) hs_));have K:=am (Kept.then_ (S:=(fun k_=>d k_∨a k_∨g k_∨b k_∨c k_)) (by repeat (first|(with_reducible first|exact HK.out|apply Kept.alloc|apply Kept.drewN|apply Kept.drew|refine Kept.setCell ?_ (.inr M.out) _)|exact HK.out)) hkp (fun k_ hs_=>(fun e_=>(j.out.1 k_ e_.symm)) hs_));have L:=am (hb);clear i;clear m;clear j;clear n;clear o;clear l;clear HK;clear HB;have i:=B;have m:=D;have j:=E;have n:=G;have o:=I;have l:=J;have HK:=K;have HB:=L;clear B D E G I J K L;(try clear hb);(try clear hkp);(try clear A);obtain⟨_,_,_,_,_,_,_,_,_,_,_,_,_,_,_,_,_,_⟩:=cf9 l.out)|((with_reducible refine gc 12 ?_);refine gl 20 Tryz.func12 (laws_markIntS.calls k (fun k_=>some k_=(.slice s q.length u:Value).ownBlock) (.slice s q.length u) q au av aG w0 _ bel (Kd.R_tight rfl n.out) A6.out) ?_;rintro e aT ⟨rfl,A,hb,hkp⟩;refine⟨_,rfl,?_⟩;have B:=am (Kd.R_mono (ok':=fun k_=>((d k_∨a k_∨g k_∨b k_∨c k_)∨w.heap.size≤k_)) (Kd.R_keptB ((Kd.R_apart' i.out (Kd.R_typed n.out) (by decide))) hkp (fun k_ hk_ hs_=>(hk_.2) hs_)) (fun k_ hk_=>hk_.1.1));have D:=am (Kd.R_mono (ok':=fun k_=>((d k_∨a k_∨g k_∨b k_∨c k_)∨w.heap.size≤k_)∧some k_≠(.slice s q.length u:Value).ownBlock∧some k_≠(.slice t r.length v:Value).ownBlock) (Kd.R_keptB (m.out) hkp (fun k_ hk_ hs_=>(hk_.2.1) hs_)) (fun k_ hk_=>⟨hk_.1.1,hk_.1.2.1,hk_.1.2.2⟩));have E:=am (Kd.R_mono (ok':=fun k_=>((d k_∨a k_∨g k_∨b k_∨c k_)∨w.heap.size≤k_)) (Kd.R_keptB ((Kd.R_apart' j.out (Kd.R_typed n.out) (by decide))) hkp (fun k_ hk_ hs_=>(hk_.2) hs_)) (fun k_ hk_=>hk_.1.1));have G:=am (Kd.R_reok rfl A (fun k_ e_=>n.out.1 k_ e_));have I:=am (Kd.R_mono (ok':=fun k_=>((d k_∨a k_∨g k_∨b k_∨c k_)∨w.heap.size≤k_)∧some k_≠(.slice T p.length U:Value).ownBlock∧some k_≠(.slice s q.length u:Value).ownBlock) (Kd.R_keptB (o.out) hkp (fun k_ hk_ hs_=>(hk_.2.2) hs_)) (fun k_ hk_=>⟨hk_.1.1,hk_.1.2.1,hk_.1.2.2⟩));have J:=am (blk_kept (bk l.out) hkp (fun hs_=>(fun e_=>(Kd.R_ne n.out l.out (by decide)) e_) hs_));have K:=am (Kept.then_ (S:=(fun k_=>d k_∨a k_∨g k_∨b k_∨c k_)) (by repeat (first|(with_reducible first|exact HK.out|apply Kept.alloc|apply Kept.drewN|apply Kept.drew|refine Kept.setCell ?_ (.inr M.out) _)|exact HK.out)) hkp (fun k_ hs_=>(fun e_=>(n.out.1 k_ e_.symm).1) hs_));have L:=am (hb);clear i;clear m;clear j;clear n;clear o;clear l;clear HK;clear HB;have i:=B;have m:=D;have j:=E;have n:=G;have o:=I;have l:=J;have HK:=K;have HB:=L;clear B D E G I J K L;(try clear hb);(try clear hkp);(try clear A);obtain⟨_,_,_,_,_,_,_,_,_,_,_,_,_,_,_,_,_,_⟩:=cf9 l.out)|((with_reducible refine gc 12 ?_);refine gl 24 Tryz.func12 (laws_markIntS.calls k (fun k_=>some k_=(.slice t r.length v:Value).ownBlock) (.slice t r.length v) r av aH aI w0 _ bel (Kd.R_tight rfl o.out) A7.out) ?_;rintro e aU ⟨rfl,A,hb,hkp⟩;refine⟨_,rfl,?_⟩;have B:=am (Kd.R_mono (ok':=fun k_=>((d k_∨a k_∨g k_∨b k_∨c k_)∨w.heap.size≤k_)) (Kd.R_keptB ((Kd.R_apart' i.out (Kd.R_typed o.out) (by decide))) hkp (fun k_ hk_ hs_=>(hk_.2) hs_)) (fun k_ hk_=>hk_.1.1));have D:=am (Kd.R_mono (ok':=fun k_=>((d k_∨a k_∨g k_∨b k_∨c k_)∨w.heap.size≤k_)∧some k_≠(.slice s q.length u:Value).ownBlock∧some k_≠(.slice t r.length v:Value).ownBlock) (Kd.R_keptB (m.out) hkp (fun k_ hk_ hs_=>(hk_.2.2) hs_)) (fun k_ hk_=>⟨hk_.1.1,hk_.1.2.1,hk_.1.2.2⟩));have E:=am (Kd.R_mono (ok':=fun k_=>((d k_∨a k_∨g k_∨b k_∨c k_)∨w.heap.size≤k_)) (Kd.R_keptB ((Kd.R_apart' j.out (Kd.R_typed o.out) (by decide))) hkp (fun k_ hk_ hs_=>(hk_.2) hs_)) (fun k_ hk_=>hk_.1.1));have G:=am (Kd.R_mono (ok':=fun k_=>((d k_∨a k_∨g k_∨b k_∨c k_)∨w.heap.size≤k_)∧some k_≠(.slice T p.length U:Value).ownBlock∧some k_≠(.slice t r.length v:Value).ownBlock) (Kd.R_keptB (n.out) hkp (fun k_ hk_ hs_=>(hk_.2.2) hs_)) (fun k_ hk_=>⟨hk_.1.1,hk_.1.2.1,hk_.1.2.2⟩));have I:=am (Kd.R_reok rfl A (fun k_ e_=>o.out.1 k_ e_));have J:=am (blk_kept (bk l.out) hkp (fun hs_=>(fun e_=>(Kd.R_ne o.out l.out (by decide)) e_) hs_));have K:=am (Kept.then_ (S:=(fun k_=>d k_∨a k_∨g k_∨b k_∨c k_)) (by repeat (first|(with_reducible first|exact HK.out|apply Kept.alloc|apply Kept.drewN|apply Kept.drew|refine Kept.setCell ?_ (.inr M.out) _)|exact HK.out)) hkp (fun k_ hs_=>(fun e_=>(o.out.1 k_ e_.symm).1) hs_));have L:=am (hb);clear i;clear m;clear j;clear n;clear o;clear l;clear HK;clear HB;have i:=B;have m:=D;have j:=E;have n:=G;have o:=I;have l:=J;have HK:=K;have HB:=L;clear B D E G I J K L;(try clear hb);(try clear hkp);(try clear A)))
 go_ret
 exact⟨er,rk i.out,by(with_reducible repeat (first|apply Kd.R_alloc|apply Kd.R_drewN|apply Kd.R_drew));exact Kd.R_mono m.out (fun _ hk=>hk.1),rk j.out,by(with_reducible repeat (first|apply Kd.R_alloc|apply Kd.R_drewN|apply Kd.R_drew));exact Kd.R_mono n.out (fun _ hk=>hk.1),by(with_reducible repeat (first|apply Kd.R_alloc|apply Kd.R_drewN|apply Kd.R_drew));exact Kd.R_mono o.out (fun _ hk=>hk.1),bel,by repeat (first|(with_reducible first|exact HK.out|apply Kept.alloc|apply Kept.drewN|apply Kept.drew|refine Kept.setCell ?_ (.inr M.out) _)|exact HK.out)⟩
def spec_l01In.f(a0:Int)(a1:Int)(a2:Int):Option (Bool):=if a0≥a1 then(some (decide (a0≤a2)))else(some false)
theorem spec_l01In.calls(a0:Int)(a1:Int)(a2:Int)(r:Bool)(w:World)(h:spec_l01In.f a0 a1 a2=some r):Calls Tryz.prog 53 #[.int .i64 a0,.int .i64 a1,.int .i64 a2] w fun e w'=>e=.returned (.bool r)∧Drawn0 w w':=by
 have H:=h
 unfold spec_l01In.f at H
 clear h
 replace H:=i1 H;obtain⟨a,H⟩|⟨a,H⟩:=H
 ·obtain rfl:=qj1 H
  go_enter Tryz.func53,Tryz.ntmps53
  go_wp2
  go_ret
  exact⟨es,by repeat (first|exact Drawn0.refl _|apply Drawn0.step)⟩
 ·obtain rfl:=qj1 H
  go_enter Tryz.func53,Tryz.ntmps53
  go_wp2
  go_ret
  exact⟨es,by repeat (first|exact Drawn0.refl _|apply Drawn0.step)⟩
def laws_heldIntS.l0:Nat→List Int→Int→Int→Option (Int)
  |0,_,_,_=>none
  |k+1,x0,x1,x5=>if x5<(x0.length:Int)then(if 0≤x5 then(if(rd x0 x5)=x1 then(laws_heldIntS.l0 k x0 (wrap64 (x1+1)) (wrap64 (x5+1)))else(some (-1)))else(none))else(some x1)
def laws_heldIntS.f(k:Nat)(l0:List Int)(a1:Int):Option (Int):=laws_heldIntS.l0 k l0 a1 0
theorem laws_heldIntS.calls(k:Nat)(A0:Option Addr)(c0:Nat)(l0:List Int)(a1:Int)(r:Int)(w:World)(g:Kd.C (Kd.int .i64) w A0 l0.length l0)(j:l0.length≤c0)(h:laws_heldIntS.f k l0 a1=some r):Calls Tryz.prog 13 #[.slice A0 l0.length c0,.int .i64 a1] w fun e w'=>e=.returned (.int .i64 r)∧Drawn0 w w':=by
 replace g:=am g
 replace j:=am j
 have H:=h
 unfold laws_heldIntS.f at H
 clear h
 replace H:=am H
 go_enter Tryz.func13,Tryz.ntmps13
 go_wp2
 go_loopg [1,5] k (fun kq v1 v5 w'=>∃(b:Int) (a:Int),v1=.int .i64 b∧v5=.int .i64 a∧Aside0 (laws_heldIntS.l0 kq l0 b a=some r)∧Aside0 (kq≤k)∧Drawn0 w w')
 case atStart=>exact⟨(a1),(0),(es),(es),H,⟨Nat.le_refl _⟩,by repeat (first|exact Drawn0.refl _|apply Drawn0.step)⟩
 case round=>
  clear H
  obtain⟨b,a,rfl,rfl,HA,l,⟨m1,rfl⟩⟩:=hrel
  cases gk with
  |zero=>exact absurd HA.out (by simp [laws_heldIntS.l0])
  |succ k1=>
   have H:=HA.out
   clear HA
   simp only[laws_heldIntS.l0]at H
   replace H:=i1 H;obtain⟨m,H⟩|⟨m,H⟩:=H
   ·replace H:=i0 H;obtain⟨p,H⟩:=H
    replace H:=ie H;obtain⟨n,o,H⟩|⟨⟨c5,n,o⟩,H⟩:=H
    ·replace H:=am H
     have:(0≤(a:Int))=True:=ab
     have:(a<(l0.length:Int))=True:=ab
     obtain⟨i,c,d⟩:=Kd.at_int g.out a asm asm
     cases c
     go_wp2
     go_roundg k1
     case measure=>have:=l.out;omega
     case rel=>exact⟨(wrap64 (b+1)),(wrap64 (a+1)),(es),(es),H,⟨by have:=l.out;omega⟩,by repeat (first|exact Drawn0.refl _|apply Drawn0.step)⟩
    ·obtain rfl:=qj1 H
     have:(0≤(a:Int))=True:=ab
     have:(a<(l0.length:Int))=True:=ab
     obtain⟨i,c,d⟩:=Kd.at_int g.out a asm asm
     cases c
     go_wp2
     go_ret
     exact⟨es,by repeat (first|exact Drawn0.refl _|apply Drawn0.step)⟩
   ·obtain rfl:=qj1 H
    go_wp2
    go_ret
    exact⟨es,by repeat (first|exact Drawn0.refl _|apply Drawn0.step)⟩
def spec_l02Has.l0:Nat→Int→List Int→Int→Int→Option (Bool)
  |0,_,_,_,_=>none
  |k+1,x1,x7,x8,x9=>if x9<x8 then(if 0≤x9 then(if x9<(x7.length:Int)then(if(rd x7 x9)=x1 then(some true)else(spec_l02Has.l0 k x1 x7 x8 (wrap64 (x9+1))))else(none))else(none))else(some false)
def spec_l02Has.f(k:Nat)(l0:List Int)(a1:Int):Option (Bool):=spec_l02Has.l0 k a1 l0 (l0.length:Int) 0
theorem spec_l02Has.calls(k:Nat)(A0:Option Addr)(c0:Nat)(l0:List Int)(a1:Int)(r:Bool)(w:World)(d:Kd.C (Kd.int .i64) w A0 l0.length l0)(i:l0.length≤c0)(h:spec_l02Has.f k l0 a1=some r):Calls Tryz.prog 84 #[.slice A0 l0.length c0,.int .i64 a1] w fun e w'=>e=.returned (.bool r)∧Drawn0 w w':=by
 replace d:=am d
 replace i:=am i
 have H:=h
 unfold spec_l02Has.f at H
 clear h
 replace H:=am H
 go_enter Tryz.func84,Tryz.ntmps84
 go_wp2
 go_loopg [9] k (fun kq v9 w'=>∃(a:Int),v9=.int .i64 a∧Aside0 (spec_l02Has.l0 kq a1 l0 (l0.length:Int) a=some r)∧Aside0 (kq≤k)∧Drawn0 w w')
 case atStart=>exact⟨(0),(es),H,⟨Nat.le_refl _⟩,by repeat (first|exact Drawn0.refl _|apply Drawn0.step)⟩
 case round=>
  clear H
  obtain⟨a,rfl,HA,j,⟨m1,rfl⟩⟩:=hrel
  cases gk with
  |zero=>exact absurd HA.out (by simp [spec_l02Has.l0])
  |succ k1=>
   have H:=HA.out
   clear HA
   simp only[spec_l02Has.l0]at H
   replace H:=i1 H;obtain⟨l,H⟩|⟨l,H⟩:=H
   ·replace H:=i0 H;obtain⟨o,H⟩:=H
    replace H:=i0 H;obtain⟨p,H⟩:=H
    replace H:=ie H;obtain⟨m,n,H⟩|⟨⟨c6,m,n⟩,H⟩:=H
    ·obtain rfl:=qj1 H
     have:(0≤(a:Int))=True:=ab
     have:(a<(l0.length:Int))=True:=ab
     obtain⟨g,b,c⟩:=Kd.at_int d.out a asm asm
     cases b
     go_wp2
     go_ret
     exact⟨es,by repeat (first|exact Drawn0.refl _|apply Drawn0.step)⟩
    ·replace H:=am H
     have:(0≤(a:Int))=True:=ab
     have:(a<(l0.length:Int))=True:=ab
     obtain⟨g,b,c⟩:=Kd.at_int d.out a asm asm
     cases b
     go_wp2
     go_roundg k1
     case measure=>have:=j.out;omega
     case rel=>exact⟨(wrap64 (a+1)),(es),H,⟨by have:=j.out;omega⟩,by repeat (first|exact Drawn0.refl _|apply Drawn0.step)⟩
   ·obtain rfl:=qj1 H
    go_wp2
    go_ret
    exact⟨es,by repeat (first|exact Drawn0.refl _|apply Drawn0.step)⟩
mutual
def spec_RulesOk.j0:Nat→Bool→Int→Int→Int→List Int→Bool→Option (Bool)
  |0,_,_,_,_,_,_=>none
  |k+1,g,b,c,d,a,e=>if g=true then(some false)else(spec_RulesOk.l0 k a (a.length:Int) 0 b c d a e)
def spec_RulesOk.l0:Nat→List Int→Int→Int→Int→Int→Int→List Int→Bool→Option (Bool)
  |0,_,_,_,_,_,_,_,_=>none
  |k+1,h,l,b,c,d,e,a,g=>if b<l then(if 0≤b then(if b<(h.length:Int)then((spec_l01In.f (rd h b) 1 8).bind fun i=>(if i=true then(if b≤(a.length:Int)then((spec_l02Has.f k (a.take (b:Int).toNat) (rd h b)).bind fun j=>(if j=true then(some false)else(spec_RulesOk.l0 k h l (wrap64 (b+1)) c d e a g)))else(none))else(some false)))else(none))else(none))else(some true)
end
def spec_RulesOk.f(k:Nat)(a:Int)(b:Int)(c:Int)(d:List Int)(e:Bool):Option (Bool):=(spec_l01In.f a 0 10).bind fun g=>(if g=true then((spec_l01In.f b 0 a).bind fun h=>(if h=true then((spec_l01In.f c 0 b).bind fun i=>(if i=true then((spec_l01In.f (d.length:Int) 1 8).bind fun j=>(spec_RulesOk.j0 k (!j) a b c d e))else(spec_RulesOk.j0 k true a b c d e)))else(spec_RulesOk.j0 k true a b c d e)))else(spec_RulesOk.j0 k true a b c d e))
theorem spec_RulesOk.calls(k:Nat)(d:Int)(g:Int)(j:Int)(s:Option Addr)(o:Nat)(b:List Int)(n:Bool)(r:Bool)(w:World)(i:Kd.C (Kd.int .i64) w s b.length b)(p:b.length≤o)(h:spec_RulesOk.f k d g j b n=some r):Calls Tryz.prog 74 #[.agg #[.int .i64 d,.int .i64 g,.int .i64 j,.slice s b.length o,.bool n]] w fun e w'=>e=.returned (.bool r)∧Below w.heap.size w w':=by
 have aw:=Tryz.underlying32
 replace i:=am i
 replace p:=am p
 have HB:=qb w
 have H:=h
 unfold spec_RulesOk.f at H
 clear h
 have ad:=am H
 clear H
 go_enter Tryz.func74,Tryz.ntmps74
 go_upto_region 1 with (first|((with_reducible refine gd 1 ?_);refine bx w 1 #[.int .i64 d,.int .i64 g,.int .i64 j,.slice s b.length o,.bool n] 32 ?_;clear HB;intro x w3 c an HB))
 (try simp only[Act.put,List.setIfInBounds_toArray,List.set_cons_zero,List.set_cons_succ])
 go_cut [31] (fun au wc=>∃(kq:Nat) (v:Bool),au=.bool v∧Aside0 (spec_RulesOk.j0 kq v d g j b n=some r)∧Aside0 (kq≤k)∧Aside0 (wc.heap[x]? =some (.cells #[.int .i64 d,.int .i64 g,.int .i64 j,(.slice s b.length o),.bool n] 32 (0,0)))∧Aside0 (Below w.heap.size w wc))
 case first=>
  have H:=ad.out
  clear ad
  replace H:=bm H;obtain⟨az,A4,H⟩:=H
  replace H:=ib H;obtain⟨rfl,H⟩|⟨rfl,H⟩:=H
  ·replace H:=bm H;obtain⟨aA,A6,H⟩:=H
   replace H:=ib H;obtain⟨rfl,H⟩|⟨rfl,H⟩:=H
   ·replace H:=bm H;obtain⟨aB,A8,H⟩:=H
    replace H:=ib H;obtain⟨rfl,H⟩|⟨rfl,H⟩:=H
    ·replace H:=bm H;obtain⟨aa,al,H⟩:=H
     replace H:=am H
     obtain⟨_,_,_,_,_,_,_,_,_,_⟩:=cf5 c.out
     go_wp2_with (first|((with_reducible refine gc 53 ?_);refine gl 7 Tryz.func53 (spec_l01In.calls d 0 10 true _ A4.out) ?_;rintro e w' ⟨rfl,⟨nd,rfl⟩⟩;refine⟨_,rfl,?_⟩)|(go_at_call 53;refine cm1 (spec_l01In.calls g 0 d true _ A6.out) ?_;intro nd)|(go_at_call 53;refine cm1 (spec_l01In.calls j 0 g true _ A8.out) ?_;intro nd)|(go_at_call 53;refine cm1 (spec_l01In.calls (b.length:Int) 1 8 aa _ al.out) ?_;intro nd))
     go_meet
     case rel=>exact⟨_,(!aa),(es),H,⟨by first|omega|exact Nat.le_refl _⟩,⟨bk c.out⟩,⟨bel⟩⟩
    ·replace H:=am H
     obtain⟨_,_,_,_,_,_,_,_,_,_⟩:=cf5 c.out
     go_wp2_with (first|((with_reducible refine gc 53 ?_);refine gl 7 Tryz.func53 (spec_l01In.calls d 0 10 true _ A4.out) ?_;rintro e w' ⟨rfl,⟨nd,rfl⟩⟩;refine⟨_,rfl,?_⟩)|(go_at_call 53;refine cm1 (spec_l01In.calls g 0 d true _ A6.out) ?_;intro nd)|(go_at_call 53;refine cm1 (spec_l01In.calls j 0 g false _ A8.out) ?_;intro nd))
     go_meet
     case rel=>exact⟨_,(true),(es),H,⟨by first|omega|exact Nat.le_refl _⟩,⟨bk c.out⟩,⟨bel⟩⟩
   ·replace H:=am H
    obtain⟨_,_,_,_,_,_,_,_,_,_⟩:=cf5 c.out
    go_wp2_with (first|((with_reducible refine gc 53 ?_);refine gl 7 Tryz.func53 (spec_l01In.calls d 0 10 true _ A4.out) ?_;rintro e w' ⟨rfl,⟨nd,rfl⟩⟩;refine⟨_,rfl,?_⟩)|(go_at_call 53;refine cm1 (spec_l01In.calls g 0 d false _ A6.out) ?_;intro nd))
    go_meet
    case rel=>exact⟨_,(true),(es),H,⟨by first|omega|exact Nat.le_refl _⟩,⟨bk c.out⟩,⟨bel⟩⟩
  ·replace H:=am H
   obtain⟨_,_,_,_,_,_,_,_,_,_⟩:=cf5 c.out
   go_wp2_with (first|((with_reducible refine gc 53 ?_);refine gl 7 Tryz.func53 (spec_l01In.calls d 0 10 false _ A4.out) ?_;rintro e w' ⟨rfl,⟨nd,rfl⟩⟩;refine⟨_,rfl,?_⟩))
   go_meet
   case rel=>exact⟨_,(true),(es),H,⟨by first|omega|exact Nat.le_refl _⟩,⟨bk c.out⟩,⟨bel⟩⟩
 case rest=>
  clear ad
  obtain⟨kq,v,rfl,HA,ag,c,HB⟩:=hcut
  cases kq with
  |zero=>exact absurd HA.out (by simp [spec_RulesOk.j0])
  |succ ai=>
   have H:=HA.out
   clear HA
   simp only[spec_RulesOk.j0]at H
   replace H:=ib H;obtain⟨rfl,H⟩|⟨rfl,H⟩:=H
   ·obtain rfl:=qj1 H
    go_wp2
    go_ret
    exact⟨er,bel⟩
   ·replace H:=am H
    obtain⟨y,z,A,B,D,E,G,I,J,K⟩:=cf5 c.out
    go_wp2
    go_loopg [35] ai (fun kq av w'=>∃(a:Int),av=.int .i64 a∧Aside0 (spec_RulesOk.l0 kq b (b.length:Int) a d g j b n=some r)∧Aside0 (kq≤ai)∧Aside0 (w'.heap[x]? =some (.cells #[.int .i64 d,.int .i64 g,.int .i64 j,(.slice s b.length o),.bool n] 32 (0,0)))∧Aside0 (Below w.heap.size w w'))
    case atStart=>exact⟨(0),(es),H,⟨Nat.le_refl _⟩,⟨bk c.out⟩,⟨bel⟩⟩
    case round=>
     clear H
     try clear y;try clear z;try clear A;try clear B;try clear D;try clear E;try clear G;try clear I;try clear J;try clear K
     obtain⟨a,rfl,HA,ah,c,HB⟩:=hrel
     cases gk with
     |zero=>exact absurd HA.out (by simp [spec_RulesOk.l0])
     |succ k2=>
      have H:=HA.out
      clear HA
      simp only[spec_RulesOk.l0]at H
      replace H:=i1 H;obtain⟨ae,H⟩|⟨ae,H⟩:=H
      ·replace H:=i0 H;obtain⟨ao,H⟩:=H
       replace H:=i0 H;obtain⟨ap,H⟩:=H
       replace H:=bm H;obtain⟨aC,ac,H⟩:=H
       replace H:=ib H;obtain⟨rfl,H⟩|⟨rfl,H⟩:=H
       ·have aq:=eq_true (asm:0≤a)
        replace H:=i0 H;obtain⟨af,H⟩:=H
        have ar:=eq_true (of_decide_eq_true af)
        replace H:=bm H;obtain⟨aD,U,H⟩:=H
        replace H:=ib H;obtain⟨rfl,H⟩|⟨rfl,H⟩:=H
        ·obtain rfl:=qj1 H
         have:(0≤(a:Int))=True:=ab
         have:(a<(b.length:Int))=True:=ab
         obtain⟨q,t,u⟩:=hc1 HB.out (Kd.at_int i.out a asm asm)
         cases t
         go_wp2_with (first|((with_reducible refine gc 53 ?_);refine gl 41 Tryz.func53 (spec_l01In.calls (rd b a) 1 8 true _ ac.out) ?_;rintro e w' ⟨rfl,⟨nd,rfl⟩⟩;refine⟨_,rfl,?_⟩;obtain⟨_,_,_,_,_,_,_,_,_,_⟩:=cf5 c.out;obtain⟨ax,L,_,O,_⟩:=info_parts info3;obtain⟨aj,W,Y⟩:=print_take_of (P:=Tryz.prog) (Value.int .i64) 0 23 3 .i64 Tryz.underlying23 L O (some q) o b a (asm) (asm) p.out;have m:=am (Kd.C_of_reads (h1:=fun _=>rfl) (W _ (Kd.reads_of_C i.out)));have l:=am Y;clear W Y L O)|(go_at_call 84;refine cm1 (spec_l02Has.calls k2 _ _ (b.take (a:Int).toNat) (rd b a) true _ (ck (Kd.C_below m.out bel)) l.out U.out) ?_;intro nd)|(go_at_call 84;rw[show(a:Int).toNat=(b.take (a:Int).toNat).length from(slen b a asm).symm];(with_reducible refine(spec_l02Has.calls k2 _ _ (b.take (a:Int).toNat) (rd b a) true _ ?side1 ?side2 U.out).mono ?_);(case side1=>exact ck (Kd.C_below m.out bel));(case side2=>exact l.out);rintro e w' ⟨rfl,⟨nd,rfl⟩⟩))
         go_ret
         exact⟨er,bel⟩
        ·replace H:=am H
         have:(0≤(a:Int))=True:=ab
         have:(a<(b.length:Int))=True:=ab
         obtain⟨q,t,u⟩:=hc1 HB.out (Kd.at_int i.out a asm asm)
         cases t
         go_wp2_with (first|((with_reducible refine gc 53 ?_);refine gl 41 Tryz.func53 (spec_l01In.calls (rd b a) 1 8 true _ ac.out) ?_;rintro e w' ⟨rfl,⟨nd,rfl⟩⟩;refine⟨_,rfl,?_⟩;obtain⟨_,_,_,_,_,_,_,_,_,_⟩:=cf5 c.out;obtain⟨ay,M,_,T,_⟩:=info_parts info3;obtain⟨ak,X,Z⟩:=print_take_of (P:=Tryz.prog) (Value.int .i64) 0 23 3 .i64 Tryz.underlying23 M T (some q) o b a (asm) (asm) p.out;have m:=am (Kd.C_of_reads (h1:=fun _=>rfl) (X _ (Kd.reads_of_C i.out)));have l:=am Z;clear X Z M T)|(go_at_call 84;refine cm1 (spec_l02Has.calls k2 _ _ (b.take (a:Int).toNat) (rd b a) false _ (ck (Kd.C_below m.out bel)) l.out U.out) ?_;intro nd)|(go_at_call 84;rw[show(a:Int).toNat=(b.take (a:Int).toNat).length from(slen b a asm).symm];(with_reducible refine(spec_l02Has.calls k2 _ _ (b.take (a:Int).toNat) (rd b a) false _ ?side1 ?side2 U.out).mono ?_);(case side1=>exact ck (Kd.C_below m.out bel));(case side2=>exact l.out);rintro e w' ⟨rfl,⟨nd,rfl⟩⟩))
         go_roundg k2
         case measure=>have:=ag.out;have:=ah.out;omega
         case rel=>exact⟨(wrap64 (a+1)),(es),H,⟨by have:=ag.out;have:=ah.out;omega⟩,⟨bk c.out⟩,⟨bel⟩⟩
       ·obtain rfl:=qj1 H
        have:(0≤(a:Int))=True:=ab
        have:(a<(b.length:Int))=True:=ab
        obtain⟨q,t,u⟩:=hc1 HB.out (Kd.at_int i.out a asm asm)
        cases t
        go_wp2_with (first|((with_reducible refine gc 53 ?_);refine gl 41 Tryz.func53 (spec_l01In.calls (rd b a) 1 8 false _ ac.out) ?_;rintro e w' ⟨rfl,⟨nd,rfl⟩⟩;refine⟨_,rfl,?_⟩))
        go_ret
        exact⟨er,bel⟩
      ·obtain rfl:=qj1 H
       go_wp2
       go_ret
       exact⟨er,bel⟩
end Go.Proofs.YtgalpgakdcfilaaGreat.L
