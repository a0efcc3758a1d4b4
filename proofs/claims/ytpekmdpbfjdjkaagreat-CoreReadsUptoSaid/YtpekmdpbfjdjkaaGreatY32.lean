/- Part 32 of the proof that reading bytes answers as the document does. No condition. -/
import Derived.Test.YtpekmdpbfjdjkaaGreatY18
import Derived.Test.YtpekmdpbfjdjkaaGreatY31
set_option maxHeartbeats 16000000
set_option maxRecDepth 100000
set_option linter.all false
namespace Go.Proofs.YtpekmdpbfjdjkaaGreat.ref
open Go Go.RowKit ag.ax ag.aV ag.aU aD fr iK cL plain fE dO
theorem Fy:Un jI cX:=by
 intro s hb h;have b1:=cw (n:=8) hb;have b2:=cw (n:=8) b1;have b3:=cw (n:=8) b2;have b4:=cw (n:=8) b3;have u1:=Aw 8 s hb;unfold jI at h ⊢;simp only at h ⊢;generalize aZ 8 s=q1 at *;have u2:=Aw 8 q1.2 b1;generalize aZ 8 q1.2=q2 at *;have u3:=Aw 8 q2.2 b2;generalize aZ 8 q2.2=q3 at *;have u4:=Aw 8 q3.2 b3;generalize aZ 8 q3.2=q4 at *;have u5:=DX 16 q4.2 b4;have b5:=(dJ 16 q4.2 b4).2.2;have e5:bL ((16:Nat)) q4.2=bL 16 q4.2:=rfl;generalize bL 16 q4.2=q5 at *;have Af:∀s:List Int × Int,aq s.1→aq (bX 3072 s).2.1:=fun s h=>(dO.eE 3072 s h).2.1;have u6:=Eg (Ej 3072) Af q5.1.toNat q5.2 b5;have n6:=Ed (bX 3072) q5.1.toNat q5.2;have b6:=(jP (bX 3072) (fun _=>True) (fun s h=>⟨trivial,Af s h⟩) q5.1.toNat q5.2 b5).2.1;generalize cn (bX 3072) q5.1.toNat q5.2=q6 at *;have u7:=DX 16 q6.2 b6;have b7:=(dJ 16 q6.2 b6).2.2;generalize bL 16 q6.2=q7 at *;have u8:=Eg Gb (fun s h=>(dO.eE 3072 _ (cw (n:=8) h)).2.1) q7.1.toNat q7.2 b7;have n8:=Ed qN q7.1.toNat q7.2;generalize cn qN q7.1.toNat q7.2=q8 at *;obtain ⟨g7,e8⟩:=u8 h;obtain ⟨g6,e7⟩:=u7 g7;obtain ⟨g5,e6⟩:=u6 g6;obtain ⟨g4,e5'⟩:=u5 g5;obtain ⟨g3,e4⟩:=u4 g4;obtain ⟨g2,e3⟩:=u3 g3;obtain ⟨g1,e2⟩:=u2 g2;obtain ⟨g0,e1⟩:=u1 g1;refine ⟨g0,?_⟩;simp only [cX,gr,b8,List.append_assoc];rw [n6,n8,e1,e2,e3,e4,e5',e6,e7,e8]
theorem Fa:∀(n:Nat) (s:List Int × Int),aq s.1→(fe n s).2.2=0→s.2=0∧s.1=(fe n s).1.flatMap cX++(fe n s).2.1∧(fe n s).1.length=n:=by
 intro n;induction n with
 | zero=>intro s hb h;exact ⟨h,rfl,rfl⟩
 | succ n ih=>
  intro s hb h;rw [fe] at h ⊢;by_cases h0:s.2=0
  ·rw [if_pos h0] at h ⊢;obtain ⟨h1,h2,h3⟩:=ih (jI s).2 (qY s hb).2 h;obtain ⟨_,h4⟩:=Fy s hb h1;refine ⟨h0,?_,by rw [List.length_cons,h3]⟩;simp only [bY,List.append_assoc];rw [←h2];exact h4
  ·rw [if_neg h0] at h;exact absurd h h0
theorem FP:Un pX fI:=by
 intro s hb h;unfold pX at h ⊢;have hk:=nN hb;obtain ⟨h1,h2,h3⟩:=Fa _ _ (cw (n:=1) hb) h;obtain ⟨h4,h5⟩:=Aw 1 s hb h1;simp only [Gp hk] at h5;refine ⟨h4,?_⟩;rw [fI,h3,List.cons_append,←h2];rw [h5,List.singleton_append];congr 1;omega
theorem Fp (s:List Int × Int) (hb:aq s.1) (h:(mI s).2.2=0):s.2=0∧192::1::s.1=dV (mI s).1++(mI s).2.1:=by
 have b0:=cw (n:=1) hb;have k0:=nN hb;have u0:=Aw 1 s hb;unfold mI at h ⊢;simp only at h ⊢;generalize aZ 1 s=q0 at *;have u1:=DX 8192 q0.2 b0;have b1:=(dJ 8192 q0.2 b0).2.2;generalize bL 8192 q0.2=q1 at *;have u2:=Fc q1.1.toNat 0 q1.2 b1;have n2:=EY q1.1.toNat 0 q1.2;have b2:=(rF q1.1.toNat 0 q1.2 (by omega) b1).2.1;generalize eX q1.1.toNat 0 q1.2=q2 at *;have u3:=DX 32768 q2.2 b2;have b3:=(dJ 32768 q2.2 b2).2.2;generalize bL 32768 q2.2=q3 at *;have y4:∀s:List Int × Int,aq s.1→aq (oT s).2.1:=fun s h=>(dO.eE 64 _ (cw (n:=8) h)).2.1;have u4:=Eg FX y4 q3.1.toNat q3.2 b3;have n4:=Ed oT q3.1.toNat q3.2;have b4:=(jP oT (fun _=>True) (fun s h=>⟨trivial,y4 s h⟩) q3.1.toNat q3.2 b3).2.1;generalize cn oT q3.1.toNat q3.2=q4 at *;have u5:=DX 16 q4.2 b4;have b5:=(dJ 16 q4.2 b4).2.2;generalize bL 16 q4.2=q5 at *;have y6:∀s:List Int × Int,aq s.1→aq (pY s).2.1:=fun s h=>cw (n:=1) (cw (n:=8) (cw (n:=1) h));have u6:=Eg Gc y6 q5.1.toNat q5.2 b5;have n6:=Ed pY q5.1.toNat q5.2;have b6:=(jP pY (fun _=>True) (fun s h=>⟨trivial,y6 s h⟩) q5.1.toNat q5.2 b5).2.1;generalize cn pY q5.1.toNat q5.2=q6 at *;have u7:=DX 1073741824 q6.2 b6;have b7:=(dJ 1073741824 q6.2 b6).2.2;generalize bL 1073741824 q6.2=q7 at *;have u8:=DX 1073741824 q7.2 b7;have b8':=(dJ 1073741824 q7.2 b7).2.2;generalize bL 1073741824 q7.2=q8 at *;have u9:=FP q8.2 b8';generalize pX q8.2=q9 at *;obtain ⟨g8,e9⟩:=u9 h;obtain ⟨g7,e8⟩:=u8 g8;obtain ⟨g6,e7⟩:=u7 g7;obtain ⟨g5,e6⟩:=u6 g6;obtain ⟨g4,e5⟩:=u5 g5;obtain ⟨g3,e4⟩:=u4 g4;obtain ⟨g2,e3⟩:=u3 g3;obtain ⟨g1,e2⟩:=u2 g2;obtain ⟨g0,e1⟩:=u1 g1;obtain ⟨g,e0⟩:=u0 g0;simp only [Gp k0] at e0;refine ⟨g,?_⟩;simp only [dV,gr,List.append_assoc,List.cons_append];rw [n2,n4,n6,e0,e1,e2,e3,e4,e5,e6,e7,e8,e9];rfl
theorem Ef (l:List Int) (hb:aq l) (s:Hs) (h:lT l=some s):gT (dV s)=l∧ni s=true∧oO s∧(16777216:Int)≥l.length:=by
 unfold lT at h;split at h
 ·cases h
 rename_i hlen;split at h
 ·cases h
 rename_i hl4;split at h
 case isFalse=>cases h
 rename_i hA;split at h
 case isFalse=>cases h
 rename_i hB;simp only at h;split at h
 case isFalse=>cases h
 rename_i h0;split at h
 case isFalse=>cases h
 rename_i h4;split at h
 case isFalse=>cases h
 rename_i hS;split at h
 case isFalse=>cases h
 rename_i hw;injection h with h;have b1:=cw (n:=1) (s:=(l,0)) hb;have b2:=cw (n:=1) b1;have hbs:=(rR _ b2);obtain ⟨g2,e2⟩:=Fp _ b2 h0;obtain ⟨g1,e1⟩:=Aw 1 _ b1 g2;obtain ⟨g0,e0⟩:=Aw 1 (l,0) hb g1;simp only [hA,hB] at e0 e1;have el:l=192::1::(aZ 1 (aZ 1 (l,0)).2).2.1:=by
  rw [show (be 1 (192:Int).toNat)=[192] from rfl] at e0;rw [show (be 1 (1:Int).toNat)=[1] from rfl] at e1;rw [List.singleton_append] at e0 e1;rw [←e1];exact e0
 generalize hq:mI (aZ 1 (aZ 1 (l,0)).2).2=q at *;have ef:l=dV q.1++q.2.1:=by rw [←e2];exact el
 have ht:l.take (l.length - 4)=dV q.1:=by
  have hl:l.length - 4=(dV q.1).length:=by rw [ef,List.length_append,h4];omega
  rw [hl,ef,List.take_left]
 obtain ⟨_,e4⟩:=Aw 4 q.2 hbs.2 (by
  unfold aZ eg;simp only [h0,ne_eq,not_true,if_false,h4];rfl)
 have hr:(aZ 4 q.2).2.1=[]:=by
  unfold aZ eg;simp only [h0,ne_eq,not_true,if_false,h4];rw [if_neg (by omega)];rw [show (4:Nat)=q.2.1.length from h4.symm,List.drop_length]
 simp only [hr,bM,hS,ht,Int.toNat_natCast] at e4;subst h;refine ⟨?_,hw,hbs.1,by omega⟩;rw [gT,←e4];exact ef.symm
theorem EO (l:List Int) (hb:aq l):lT l=ED l:=by
 cases h:lT l with
 | some s=>
  obtain ⟨h1,h2,h3,_⟩:=Ef l hb s h;obtain ⟨T,hT⟩:∃T,dV s=192::1::T:=⟨_,rfl⟩;have hB:=EV s h3 (lA s h2) (be 4 (eH (dV s))) T hT;have e:l=[192,1]++(T++be 4 (eH (dV s))):=by rw [←h1,gT,hT];rfl
  have ht:(tF 2 (l,0)).2=(T++be 4 (eH (dV s)),0):=by
   rw [tF,e,kV [192,1] _ 2 rfl]
  unfold ED Fi;rw [ht,hB];simp only [if_true];rw [if_pos ⟨h2,h1⟩]
 | none=>
  cases h2:ED l with
  | none=>rfl
  | some s=>
   unfold ED Fi at h2;split at h2
   case isFalse=>cases h2
   split at h2
   case isFalse=>cases h2
   rename_i hq;injection h2 with h2;have hs:=(En (tF 2 (l,0)).2 (iC (n:=2) (s:=(l,0)) hb).2.1).1;rw [h2] at hs hq;have h3:=rG s hs hq.1;rw [hq.2,h] at h3;cases h3
theorem ta (l:List eW) (hL:l.length≤100000000):∀(d i k:Nat),i+d=l.length→d+1≤k→bq.l0 k l l (i:Int)=some true:=by
 intro d;induction d with
 | zero=>
  intro i k hi hk;obtain ⟨k,rfl⟩:∃n,k=n+1:=⟨k - 1,by omega⟩;rw [bq.l0,if_neg (by omega)]
 | succ d ih=>
  intro i k hi hk;obtain ⟨k,rfl⟩:∃n,k=n+1:=⟨k - 1,by omega⟩;have h1:(i:Int)<(l.length:Int):=by omega
  have h0:(0:Int)≤(i:Int):=by omega
  have hw:wrap64 ((i:Int)+1)=((i+1:Nat):Int):=IntWalk.wrap64_in _ (by omega);rw [bq.l0,if_pos h1,if_pos h0,if_pos h1,if_neg (by simp),hw];exact ih (i+1) k (by omega) (by omega)
theorem rX (l:List eW) (hL:l.length≤100000000) (k:Nat) (hk:l.length+1≤k):bq.f k l l=some true:=by
 unfold bq.f;rw [if_pos rfl];exact ta l hL l.length 0 k (by omega) hk
theorem BM (l:List Int):dk.f l l=some true:=by
 unfold dk.f;simp
theorem ur (l:List jx) (hL:l.length≤100000000):∀(d i k:Nat),i+d=l.length→d+1≤k→bj.l0 k l l (i:Int)=some true:=by
 intro d;induction d with
 | zero=>
  intro i k hi hk;obtain ⟨k,rfl⟩:∃n,k=n+1:=⟨k - 1,by omega⟩;rw [bj.l0,if_neg (by omega)]
 | succ d ih=>
  intro i k hi hk;obtain ⟨k,rfl⟩:∃n,k=n+1:=⟨k - 1,by omega⟩;have h1:(i:Int)<(l.length:Int):=by omega
  have h0:(0:Int)≤(i:Int):=by omega
  have hw:wrap64 ((i:Int)+1)=((i+1:Nat):Int):=IntWalk.wrap64_in _ (by omega);rw [bj.l0,if_pos h1,if_pos h0,if_pos h1,if_neg (by simp),hw];exact ih (i+1) k (by omega) (by omega)
theorem qS (l:List jx) (hL:l.length≤100000000) (k:Nat) (hk:l.length+1≤k):bj.f k l l=some true:=by
 unfold bj.f;rw [if_pos rfl];exact ur l hL l.length 0 k (by omega) hk
theorem uX (l:List (List Int)) (hL:l.length≤100000000):∀(d i k:Nat),i+d=l.length→d+1≤k→bw.l0 k l l (i:Int)=some true:=by
 intro d;induction d with
 | zero=>
  intro i k hi hk;obtain ⟨k,rfl⟩:∃n,k=n+1:=⟨k - 1,by omega⟩;rw [bw.l0,if_neg (by omega)]
 | succ d ih=>
  intro i k hi hk;obtain ⟨k,rfl⟩:∃n,k=n+1:=⟨k - 1,by omega⟩;have h1:(i:Int)<(l.length:Int):=by omega
  have h0:(0:Int)≤(i:Int):=by omega
  have hw:wrap64 ((i:Int)+1)=((i+1:Nat):Int):=IntWalk.wrap64_in _ (by omega);rw [bw.l0,if_pos h1,if_pos h0,if_pos h1,if_pos rfl,hw];exact ih (i+1) k (by omega) (by omega)
theorem tT (l:List (List Int)) (hL:l.length≤100000000) (k:Nat) (hk:l.length+1≤k):bw.f k l l=some true:=by
 unfold bw.f;rw [if_pos rfl];exact uX l hL l.length 0 k (by omega) hk
theorem wN (l:List jE) (hL:l.length≤100000000):∀(d i k:Nat),i+d=l.length→d+1≤k→bp.l0 k l l (i:Int)=some true:=by
 intro d;induction d with
 | zero=>
  intro i k hi hk;obtain ⟨k,rfl⟩:∃n,k=n+1:=⟨k - 1,by omega⟩;rw [bp.l0,if_neg (by omega)]
 | succ d ih=>
  intro i k hi hk;obtain ⟨k,rfl⟩:∃n,k=n+1:=⟨k - 1,by omega⟩;have h1:(i:Int)<(l.length:Int):=by omega
  have h0:(0:Int)≤(i:Int):=by omega
  have hw:wrap64 ((i:Int)+1)=((i+1:Nat):Int):=IntWalk.wrap64_in _ (by omega);rw [bp.l0,if_pos h1,if_pos h0,if_pos h1,if_pos rfl,if_pos rfl,hw];exact ih (i+1) k (by omega) (by omega)
theorem tB (l:List jE) (hL:l.length≤100000000) (k:Nat) (hk:l.length+1≤k):bp.f k l l=some true:=by
 unfold bp.f;rw [if_pos rfl];exact wN l hL l.length 0 k (by omega) hk
theorem aY {w w':World} {b:Nat} {o:Obj} (h:w.heap[b]? = some o) (hb:Below w.heap.size w w'):w'.heap[b]? = some o:=(hb.block b (ak h)).trans h
theorem rU (l:List iA) (A B:Option Addr) (c d:Nat) (W:World) (hA:Kd.C Ee W A l.length l) (hB:Kd.C Ee W B l.length l) (hL:l.length≤10000000) :
 Calls Tryz.prog 35 #[.slice A l.length c, .slice B l.length d] W fun e w'=>e = .returned (.bool true)∧Below W.heap.size W w':=by
 have HA:=aa hA;have HB:=aa hB;have S0:=aa (Below.refl W.heap.size W);clear hA hB;go_in;go_wp2_with fail;go_loopw [5] (fun v5 wr=>∃i:Nat,i≤l.length∧v5 = .int .i64 i∧af (Below W.heap.size W wr)) (fun v _=>l.length - (intOf v).toNat)
 case atStart=>exact ⟨0,aI _,rfl,S0⟩
 case round=>
  obtain ⟨i,hi,rfl,HW⟩:=hrel;clear S0;by_cases hlt:i<l.length
  case neg=>
   go_wp2_with fail;go_ret;exact ⟨rfl,HW.1⟩
  obtain ⟨ad,Y1,q1,e1,m0,m1,l1,C1⟩:=iG (Kd.aN HA.1 HW.1) (i:Int) (by omega) (by omega);obtain ⟨ae,Y2,q2,e2,n0,n1,l2,C2⟩:=iG (Kd.aN HB.1 HW.1) (i:Int) (by omega) (by omega);subst e1;subst e2;simp only [Int.toNat_natCast] at m0 m1 C1 n0 n1 C2;generalize cF l (i:Int)=p at m0 m1 l1 C1 n0 n1 l2 C2;have SC:=aa (fun (n:Nat)=>(dk.calls Y1 q1 p.f1 Y2 q2 p.f1 true (wr.drewN n) (Kd.dZ C1 n) l1 (Kd.dZ C2 n) l2 (BM p.f1)).mono fun e w' h=>And.intro h.1 h.2.1);clear C1 C2;go_wp2_with fail;go_quiet ((go_at_call 82;with_reducible exact gj (SC.1 _)));have o0:=an (ai (Below.refl wr.heap.size wr) nq) m0;have o1:=an (ai (Below.refl wr.heap.size wr) nq) n0;have W2:=aa (ai HW.1 nq);clear m0 m1 n0 n1 SC;generalize wr.drewN nq=w2 at o0 o1 W2 ⊢;go_wp2_with fail;go_quiet (fail);go_wp2_with fail;go_roundw
  case rel=>exact ⟨i+1,by omega,by go_num,⟨ai W2.1 _⟩⟩
  case measure=>
   show l.length - ((i:Int)+1).toNat<l.length - (i:Int).toNat;omega
theorem vk (l:List gX) (A B:Option Addr) (c d:Nat) (W:World) (hA:Kd.C ld W A l.length l) (hB:Kd.C ld W B l.length l) (hL:l.length≤10000000) (hP:∀x∈l,xA x) :
 Calls Tryz.prog 37 #[.agg #[.slice A l.length c], .agg #[.slice B l.length d]] W fun e w'=>e = .returned (.bool true)∧Below W.heap.size W w':=by
 have hu68:=Tryz.underlying68;have hu28:=Tryz.underlying28;have HA:=aa hA;have HB:=aa hB;have HP:=aa hP;have B0:=aa (ah (ah (Below.refl _ W) (.cells #[.slice A l.length c] 28)) (.cells #[.slice B l.length d] 28));have X0:=aY (aJ W (.cells #[.slice A l.length c] 28)) (ah (Below.refl _ _) (.cells #[.slice B l.length d] 28));have Y0:=aJ (W.alloc (.cells #[.slice A l.length c] 28)) (.cells #[.slice B l.length d] 28);rw [show (W.alloc (.cells #[.slice A l.length c] 28)).heap.size=W.heap.size+1 by simp] at Y0;have I0:=aa (And.intro B0.1 (And.intro X0 Y0));clear hA hB hP X0 Y0 B0;go_in;go_upto_region 1 with (fail);generalize World.alloc (World.alloc W _) _=w0 at I0 ⊢;generalize W.heap.size+1=b2 at I0 ⊢;have x0:w0.cell? ⟨W.heap.size,0,none⟩=some (.slice A l.length c):=cell_of I0.1.2.1 0;have y0:w0.cell? ⟨b2,0,none⟩=some (.slice B l.length d):=cell_of I0.1.2.2 0;go_wp2_with fail;clear x0 y0;go_loopw [5] (fun v5 wr=>∃i:Nat,i≤l.length∧v5 = .int .i64 i∧af (Below W.heap.size W wr∧wr.heap[W.heap.size]? = some (.cells #[.slice A l.length c] 28 (0,0))∧wr.heap[b2]? = some (.cells #[.slice B l.length d] 28 (0,0)))) (fun v _=>l.length - (intOf v).toNat)
 case atStart=>exact ⟨0,aI _,rfl,I0⟩
 case round=>
  obtain ⟨i,hi,rfl,HI⟩:=hrel;clear I0;have x0:wr.cell? ⟨W.heap.size,0,none⟩=some (.slice A l.length c):=cell_of HI.1.2.1 0;by_cases hlt:i<l.length
  case neg=>
   go_wp2_with fail;go_ret;exact ⟨rfl,HI.1.1⟩
  obtain ⟨ad,X2,d2,X5,d5,e1,m0,m1,m2,m3,m4,m5,l2,C2,l5,C5⟩:=jY (Kd.aN HA.1 HI.1.1) (i:Int) (by omega) (by omega);obtain ⟨ae,Y2,e2,Y5,e5,f1,n0,n1,n2,n3,n4,n5,k2,D2,k5,D5⟩:=jY (Kd.aN HB.1 HI.1.1) (i:Int) (by omega) (by omega);subst e1;subst f1;simp only [Int.toNat_natCast] at m0 m1 m2 m3 m4 m5 C2 C5 n0 n1 n2 n3 n4 n5 D2 D5;have hrd:cN l (i:Int)=l[i]:=by simp [cN,List.getD_eq_getElem?_getD,hlt]
  have PO:=aa (HP.1 _ (hrd▸List.getElem_mem hlt:cN l (i:Int)∈l));generalize cN l (i:Int)=x at m0 m1 m2 m3 m4 m5 l2 C2 l5 C5 n0 n1 n2 n3 n4 n5 k2 D2 k5 D5 PO;have QC:=aa (fun (w:World) (h:Below wr.heap.size wr w)=>(bw.calls 100000001 X2 d2 x.f2 Y2 e2 x.f2 true w (Kd.aN C2 h) l2 (Kd.aN D2 h) k2 (tT x.f2 PO.1.l2 _ (by have:=PO.1.l2;omega))).mono fun e w' h=>And.intro h.1 h.2.1);have FC:=aa (fun (w:World) (h:Below wr.heap.size wr w)=>(bp.calls 100000001 X5 d5 x.f5 Y5 e5 x.f5 true w (Kd.aN C5 h) l5 (Kd.aN D5 h) k5 (tB x.f5 PO.1.l5 _ (by have:=PO.1.l5;omega))).mono fun e w' h=>And.intro h.1 h.2.1);clear hrd C2 C5 D2 D5 l2 l5 k2 k5;go_wp2_with (first|((with_reducible refine gS 6 28 rfl ?_);refine sB #[.int .u64 x.f0, .int .u64 x.f1, .slice X2 x.f2.length d2, .int .u64 x.f3, .int .u64 x.f4, .slice X5 x.f5.length d5] (aJ wr _) ?_;intro wz P6_ hG;have WP_:=aa (bt (ah (Below.refl _ wr) _) hG.1 (Nat.le_refl _));have y0:wz.cell? ⟨b2,0,none⟩=some (.slice (some ae) l.length d):=cell_of (aY HI.1.2.2 WP_.1) 0;replace n0:=an WP_.1 n0;replace n1:=an WP_.1 n1;replace n2:=an WP_.1 n2;replace n3:=an WP_.1 n3;replace n4:=an WP_.1 n4;replace n5:=an WP_.1 n5;clear m0 m1 m2 m3 m4 m5 x0;generalize wz=w3 at *)|((with_reducible refine gS 7 33 rfl ?_);refine sB #[.int .u64 x.f0, .int .u64 x.f1, .slice Y2 x.f2.length e2, .int .u64 x.f3, .int .u64 x.f4, .slice Y5 x.f5.length e5] (aJ w3 _) ?_;intro wz P7 hG;have G7:=aa (bt (ah (Below.refl _ w3) _) hG.1 (Nat.le_refl _));have WP:=aa (WP_.1.trans (G7.1.mono WP_.1.size));have P6:=aa (aY P6_.1 G7.1);clear n0 n1 n2 n3 n4 n5 y0;have g0:=cell_of P6.1 0;have h0:=cell_of P7.1 0;have g1:=cell_of P6.1 1;have h1:=cell_of P7.1 1;have g2:=cell_of P6.1 2;have h2:=cell_of P7.1 2;have g3:=cell_of P6.1 3;have h3:=cell_of P7.1 3;have g4:=cell_of P6.1 4;have h4:=cell_of P7.1 4;have g5:=cell_of P6.1 5;have h5:=cell_of P7.1 5;generalize wz=w4 at *));refine (QC.1 w4 WP.1).mono ?_;rintro e w5 ⟨rfl,n5,rfl⟩;have W5:=aa (ai WP.1 n5);have g5:(w4.drewN n5).cell? ⟨wr.heap.size,5,none⟩=some (.slice X5 x.f5.length d5):=an (ai (Below.refl w4.heap.size w4) n5) (cell_of P6.1 5);have h5:(w4.drewN n5).cell? ⟨w3.heap.size,5,none⟩=some (.slice Y5 x.f5.length e5):=an (ai (Below.refl w4.heap.size w4) n5) (cell_of P7.1 5);generalize w4.drewN n5=w5 at W5 g5 h5 ⊢;clear QC WP;go_wp2_with fail;refine (FC.1 w5 W5.1).mono ?_;rintro e w6 ⟨rfl,n6,rfl⟩;have W6:=aa (ai W5.1 n6);clear FC W5 g5 h5;generalize w5.drewN n6=w6 at W6 ⊢;go_wp2_with fail;go_roundw
  case rel=>exact ⟨i+1,by omega,by go_num,⟨⟨HI.1.1.trans (W6.1.mono HI.1.1.size),aY HI.1.2.1 W6.1,aY HI.1.2.2 W6.1⟩⟩⟩
  case measure=>
   show l.length - ((i:Int)+1).toNat<l.length - (i:Int).toNat;omega
theorem sL (s:Hs) (A1 A2 A3 A6 B1 B2 B3 B6:Option Addr) (c1 c2 c3 c6 d1 d2 d3 d6:Nat) (W:World) (hr:pL W s A1 A2 A3 A6 c1 c2 c3 c6) (hq:pL W s B1 B2 B3 B6 d1 d2 d3 d6) (hb:oO s) :
 Calls Tryz.prog 9 #[.agg (jw s A1 A2 A3 A6 c1 c2 c3 c6), .agg (jw s B1 B2 B3 B6 d1 d2 d3 d6)] W fun e w'=>e = .returned (.bool true)∧Below W.heap.size W w':=by
 have hu30:=Tryz.underlying30;have hu28:=Tryz.underlying28;have l1:=hb.b1.1;have l3:=hb.b3.1;have K1:=aa (fun (w:World) (h:Below W.heap.size W w)=>bq.calls 10000001 A1 c1 s.table B1 d1 s.table true w (Kd.aN hr.r1 h) hr.l1 (Kd.aN hq.r1 h) hq.l1 (rX s.table (by omega) _ (by omega)));have K2:=aa (fun (w:World) (h:Below W.heap.size W w)=>rU s.pairs A2 B2 c2 d2 w (Kd.aN hr.r2 h) (Kd.aN hq.r2 h) hb.b2.1);have K3:=aa (fun (w:World) (h:Below W.heap.size W w)=>bj.calls 10000001 A3 c3 s.ses B3 d3 s.ses true w (Kd.aN hr.r3 h) hr.l3 (Kd.aN hq.r3 h) hq.l3 (qS s.ses (by omega) _ (by omega)));have K6:=aa (fun (w:World) (h:Below W.heap.size W w)=>vk s.peers A6 B6 c6 d6 w (Kd.aN hr.r6 h) (Kd.aN hq.r6 h) hb.b6.1 (fun x hx=>(hb.b6.2 x hx).toxA));have B0:=ah (ah (Below.refl _ W) (.cells (jw s A1 A2 A3 A6 c1 c2 c3 c6) 30)) (.cells (jw s B1 B2 B3 B6 d1 d2 d3 d6) 30);have X0:=aY (aJ W (.cells (jw s A1 A2 A3 A6 c1 c2 c3 c6) 30)) (ah (Below.refl _ _) (.cells (jw s B1 B2 B3 B6 d1 d2 d3 d6) 30));have Y0:=aJ (W.alloc (.cells (jw s A1 A2 A3 A6 c1 c2 c3 c6) 30)) (.cells (jw s B1 B2 B3 B6 d1 d2 d3 d6) 30);rw [show (W.alloc (.cells (jw s A1 A2 A3 A6 c1 c2 c3 c6) 30)).heap.size=W.heap.size+1 by simp] at Y0;have I0:=aa (And.intro B0 (And.intro X0 Y0));clear hr hq hb l1 l3 X0 Y0 B0;unfold jw at I0 ⊢;go_in;go_upto_region 1 with (fail);generalize World.alloc (World.alloc W _) _=w0 at I0 ⊢;generalize W.heap.size+1=b2 at I0 ⊢;have x1:w0.cell? ⟨W.heap.size,1,none⟩=some (.slice A1 s.table.length c1):=cell_of I0.1.2.1 1;have y1:w0.cell? ⟨b2,1,none⟩=some (.slice B1 s.table.length d1):=cell_of I0.1.2.2 1;go_wp2_with fail;refine (K1.1 w0 I0.1.1).mono ?_;rintro e w1 ⟨rfl,⟨q,rfl⟩⟩;have hB:=ai (Below.refl w0.heap.size w0) q;generalize w0.drewN q=w1 at hB ⊢;have I1:=aa (And.intro (I0.1.1.trans (hB.mono I0.1.1.size)) (And.intro (aY I0.1.2.1 hB) (aY I0.1.2.2 hB)));clear hB x1 y1 I0 K1;have x2:w1.cell? ⟨W.heap.size,2,none⟩=some (.slice A2 s.pairs.length c2):=cell_of I1.1.2.1 2;have y2:w1.cell? ⟨b2,2,none⟩=some (.slice B2 s.pairs.length d2):=cell_of I1.1.2.2 2;go_wp2_with fail;refine (K2.1 w1 I1.1.1).mono ?_;rintro e w2 ⟨rfl,hB⟩;have I2:=aa (And.intro (I1.1.1.trans (hB.mono I1.1.1.size)) (And.intro (aY I1.1.2.1 hB) (aY I1.1.2.2 hB)));clear hB x2 y2 I1 K2;have x3:w2.cell? ⟨W.heap.size,3,none⟩=some (.slice A3 s.ses.length c3):=cell_of I2.1.2.1 3;have y3:w2.cell? ⟨b2,3,none⟩=some (.slice B3 s.ses.length d3):=cell_of I2.1.2.2 3;go_wp2_with fail;refine (K3.1 w2 I2.1.1).mono ?_;rintro e w3 ⟨rfl,⟨q,rfl⟩⟩;have hB:=ai (Below.refl w2.heap.size w2) q;generalize w2.drewN q=w3 at hB ⊢;have I3:=aa (And.intro (I2.1.1.trans (hB.mono I2.1.1.size)) (And.intro (aY I2.1.2.1 hB) (aY I2.1.2.2 hB)));clear hB x3 y3 I2 K3;have x6:w3.cell? ⟨W.heap.size,6,none⟩=some (.slice A6 s.peers.length c6):=cell_of I3.1.2.1 6;have y6:w3.cell? ⟨b2,6,none⟩=some (.slice B6 s.peers.length d6):=cell_of I3.1.2.2 6;go_wp2_with fail;refine (K6.1 w3 I3.1.1).mono ?_;rintro e w4 ⟨rfl,hB⟩;have I4:=aa (And.intro (I3.1.1.trans (hB.mono I3.1.1.size)) (And.intro (aY I3.1.2.1 hB) (aY I3.1.2.2 hB)));clear hB x6 y6 I3 K6;have x0:=cell_of I4.1.2.1 0;have y0:=cell_of I4.1.2.2 0;have x4:=cell_of I4.1.2.1 4;have y4:=cell_of I4.1.2.2 4;have x5:=cell_of I4.1.2.1 5;have y5:=cell_of I4.1.2.2 5;go_wp2_with fail;go_ret;exact ⟨by simp,I4.1.1⟩
def gP (e j:Nat):Bool:=(e == 59&&j % 2 == 1)||e == 32||(e == 99&&j % 2 == 1)||(e == 68&&(j % 6 == 2||j % 6 == 5))
def kW (e:Nat) (cur cur':Array Value):Prop:=cur'.size=cur.size∧∀j u,cur'[j]? = some u→cur[j]? = some u∨(u.oneCell'=true∧(gP e j=true→u = .slice none 0 0))
theorem kW.refl (e:Nat) (cur:Array Value):kW e cur cur:=⟨rfl,fun _ _ h=>Or.inl h⟩
theorem kW.trans {e:Nat} {a b c:Array Value} (h:kW e a b) (k:kW e b c):kW e a c:=
 ⟨k.1.trans h.1,fun j u hu=>(k.2 j u hu).elim (fun h2=>h.2 j u h2) Or.inr⟩
structure Sp (N:Nat) (M:Nat→Prop) (W W':World):Prop where
 os:W'.os=W.os
 tape:W'.tape=W.tape
 output:W'.output=W.output
 size:W.heap.size≤W'.heap.size
 nh:∀k,k<N→¬M k→W'.heap[k]? = W.heap[k]?
 near:∀k,k<N→M k→∀cur e,W.heap[k]? = some (.cells cur e (0,0))→∃cur',W'.heap[k]? = some (.cells cur' e (0,0))∧kW e cur cur'
theorem Sp.refl (N:Nat) (M:Nat→Prop) (W:World):Sp N M W W:=⟨rfl,rfl,rfl,Nat.le_refl _,fun _ _ _=>rfl,fun _ _ _ cur e h=>⟨cur,h,kW.refl _ _⟩⟩
theorem Sp.trans {N:Nat} {M:Nat→Prop} {a b c:World} (h:Sp N M a b) (k:Sp N M b c):Sp N M a c:=
 ⟨k.os.trans h.os,k.tape.trans h.tape,k.output.trans h.output,Nat.le_trans h.size k.size,fun i hi hm=>(k.nh i hi hm).trans (h.nh i hi hm),fun i hi hm cur e hc=>by
  obtain ⟨c1,h1,o1⟩:=h.near i hi hm cur e hc;obtain ⟨c2,h2,o2⟩:=k.near i hi hm c1 e h1;exact ⟨c2,h2,o1.trans o2⟩⟩
theorem Sp.below {N:Nat} {M:Nat→Prop} {a b c:World} (h:Sp N M a b) (hb:Below b.heap.size b c) (hN:N≤b.heap.size):Sp N M a c:=
 h.trans ⟨hb.os,hb.tape,hb.output,hb.size,fun i hi _=>hb.block i (by omega),fun i hi _ cur e hc=>⟨cur,(hb.block i (by omega)).trans hc,kW.refl _ _⟩⟩
theorem Sp.step {N:Nat} {M:Nat→Prop} {W0 W W1:World} {v:Value} (h:Sp N M W0 W) (hN:N≤W.heap.size) (hG:W.grownBy W1 v.ownBlock) (hg:∀g,v.ownBlock=some g→g<N→M g)
 (hc:∀g cur e,v.ownBlock=some g→W.heap[g]? = some (.cells cur e (0,0))→∃cur',W1.heap[g]? = some (.cells cur' e (0,0))∧kW e cur cur'):Sp N M W0 W1:=
 h.trans ⟨hG.os,hG.tape,hG.output,hG.size,fun i hi hm=>hG.block i (by omega) (fun e=>hm (hg i e.symm hi)),fun i hi hm cur e hcur=>by
  by_cases he:v.ownBlock=some i
  ·exact hc i cur e he hcur
  ·exact ⟨cur,(hG.block i (by omega) (fun q=>he q.symm)).trans hcur,kW.refl _ _⟩⟩
def Row (e sz:Nat) (W:World) (v:Value) (n:Nat):Prop:=(v = .slice none 0 0∧n=0)∨∃g cap cur,v = .slice (some ⟨g,0,none⟩) n cap∧W.heap[g]? = some (.cells cur e (0,0))∧n≤cap∧cap≤maxLen∧cur.size=cap*sz
theorem Row.nil (e sz:Nat) (W:World):Row e sz W (.slice none 0 0) 0:=Or.inl ⟨rfl,rfl⟩
def In (N:Nat) (M:Nat→Prop) (v:Value):Prop:=∀g,v.ownBlock=some g→g<N∧M g
theorem In.nil (N:Nat) (M:Nat→Prop):In N M (.slice none 0 0):=fun g h=>by simp [Value.ownBlock] at h
theorem Row.sp {e sz n N:Nat} {M:Nat→Prop} {W W':World} {v:Value} (h:Row e sz W v n) (hi:In N M v) (hs:Sp N M W W'):Row e sz W' v n:=by
 rcases h with h|⟨g,cap,cur,rfl,hh,hn,hm,hz⟩
 ·exact Or.inl h
 ·obtain ⟨h1,h2⟩:=hi g rfl;obtain ⟨cur',h3,h4⟩:=hs.near g h1 h2 cur e hh;exact Or.inr ⟨g,cap,cur',rfl,h3,hn,hm,h4.1.trans hz⟩
theorem Row.type {e sz n g:Nat} {W:World} {v:Value} (h:Row e sz W v n) (hg:v.ownBlock=some g):∃cur,W.heap[g]? = some (.cells cur e (0,0)):=by
 rcases h with ⟨rfl,_⟩|⟨g',cap,cur,rfl,hh,_⟩
 ·simp [Value.ownBlock] at hg
 ·have:g'=g:=by simpa [Value.ownBlock] using hg
  subst this;exact ⟨cur,hh⟩
def B5 (N:Nat) (M:Nat→Prop) (W:World) (u:Value):Prop:=∃m,Row 5 1 W u m∧In N M u∧m≤100000000
theorem B5.nil (N:Nat) (M:Nat→Prop) (W:World):B5 N M W (.slice none 0 0):=⟨0,Row.nil _ _ _,In.nil _ _,by omega⟩
theorem B5.sp {N:Nat} {M:Nat→Prop} {W W':World} (hs:Sp N M W W') (u:Value) (h:B5 N M W u):B5 N M W' u:=by
 obtain ⟨m,h1,h2,h3⟩:=h;exact ⟨m,h1.sp h2 hs,h2,h3⟩
theorem In.mono {N N':Nat} {M:Nat→Prop} {v:Value} (h:In N M v) (hN:N≤N'):In N' M v:=fun g hg=>⟨Nat.lt_of_lt_of_le (h g hg).1 hN,(h g hg).2⟩
theorem B5.mono {N N':Nat} {M:Nat→Prop} {W:World} {v:Value} (h:B5 N M W v) (hN:N≤N'):B5 N' M W v:=by
 obtain ⟨m,h1,h2,h3⟩:=h;exact ⟨m,h1,h2.mono hN,h3⟩
section
variable {w w':World} {base hi:Nat} {s:Hs} {B1 B2 B3 B6:Option Addr} {d1 d2 d3 d6:Nat}
theorem gu {S:Nat→Prop} {b:Nat} {o:Obj} (h:w.heap[b]? = some o) (hk:Kept w w' S) (hs:¬S b):w'.heap[b]? = some o:=(hk.2 b (ak h) hs).trans h
end
theorem C7 (e:Int) (h0:0≤e) (he:e≤1000) (W:World):Calls Tryz.prog 10 #[.int .i64 e] W fun r w'=>r = .returned (.int .i64 e)∧Below W.heap.size W w':=by
 have hw:wrap64 e=e:=IntWalk.wrap64_in _ (by omega);have hw2:IntKind.i64.wrap e=e:=aA _ (by omega);go_in;go_wp2_with fail;go_ret;exact ⟨rfl,Below.refl _ _⟩
end Go.Proofs.YtpekmdpbfjdjkaaGreat.ref
namespace Go.Proofs.YtpekmdpbfjdjkaaGreat.dO
open Go Go.RowKit ag.ax ag.aV ag.aU aD fr iK cL plain fE
def FY:Hs:=⟨0,[],[],[],0,0,[]⟩
theorem sX.flat {W w':World} {o:Option Hs} {e:Ending} (h:sX W o e w'):∃A1 A2 A3 A6 c1 c2 c3 c6,e = .returned (.tuple #[.agg (jw (o.getD FY) A1 A2 A3 A6 c1 c2 c3 c6), .int .i64 (if o.isSome then 0 else 104)])∧pL w' (o.getD FY) A1 A2 A3 A6 c1 c2 c3 c6∧Below W.heap.size W w':=by
 obtain ⟨hb,h⟩:=h;cases o with
 | none=>
  simp only at h;subst h;exact ⟨none,none,none,none,0,0,0,0,rfl,⟨Kd.sW _ _,Nat.le_refl _,Kd.sW _ _,Nat.le_refl _,Kd.sW _ _,Nat.le_refl _,Kd.sW _ _,Nat.le_refl _⟩,hb⟩
 | some s=>
  obtain ⟨v1,v2,v3,v6,rfl,hm⟩:=h;obtain ⟨A1,c1,rfl⟩:=Kd.aG hm.r1;obtain ⟨A2,c2,rfl⟩:=Kd.aG hm.r2;obtain ⟨A3,c3,rfl⟩:=Kd.aG hm.r3;obtain ⟨A6,c6,rfl⟩:=Kd.aG hm.r6;have r1:=Kd.bI hm.r1;have r2:=Kd.bI hm.r2;have r3:=Kd.bI hm.r3;have r6:=Kd.bI hm.r6;exact ⟨A1,A2,A3,A6,c1,c2,c3,c6,rfl,⟨r1.2.2,r1.2.1,r2.2.2,r2.2.1,r3.2.2,r3.2.1,r6.2.2,r6.2.1⟩,hb⟩
theorem zB:oO FY:={ b0:=by decide,b1:=⟨by decide,fun x hx=>by cases hx⟩,b2:=⟨by decide,fun x hx=>by cases hx⟩,b3:=⟨by decide,fun x hx=>by cases hx⟩,b4:=by decide,b5:=by decide,b6:=⟨by decide,fun x hx=>by cases hx⟩ }
theorem Fv (l:List Int) (A:Option Addr) (c:Nat) (W:World) (hl:Kd.C (Kd.int .u8) W A l.length l) (hc:l.length≤c) (hL:l.length≤10000000) (hy:aq l) :
 Calls Tryz.prog 4 #[.slice A l.length c] W fun e w'=>e = .returned (.bool true)∧Below W.heap.size W w':=by
 have hu30:=Tryz.underlying30;have B1:=aa (bT.calls 20000000 A c l l W hl hc (ref.qV l (by omega) _ (by omega)));have B2:=aa (fun (w:World) (h:Below W.heap.size W w)=>bT.calls 20000000 A c l l w (Kd.aN hl h) hc (ref.qV l (by omega) _ (by omega)));have SE:=aa (fun (w0 w:World) (v:Value) (h:Below w0.heap.size w0 w) (hR:Kd.R (Kd.int .u8) 5 w w0.heap.size (fun _=>True) v l)=>eY.calls (8*l.length+66) (fun _=>True) v l _ w0 w h hR (ref.pP l hy (by omega) _ (Nat.le_refl _)));have HY:=aa hy;clear hl hc;go_in;go_wp2_with fail;refine B1.1.mono ?_;rintro e w1 ⟨v1,rfl,hR1,hB1⟩;obtain ⟨A1,c1,rfl⟩:=Kd.aG hR1;have X1:=aa (Kd.bI hR1).2;have W1:=aa hB1;clear hR1 B1;go_wp2_with fail;refine (B2.1 w1 W1.1).mono ?_;rintro e w2 ⟨v2,rfl,hR2,hB2⟩;have R2:=aa hR2;have W2:=aa hB2;clear hR2 hB2 hB1 B2;go_wp2_with fail;refine (SE.1 w1 w2 v2 W2.1 R2.1).mono ?_;rintro e w3 ⟨v3,rfl,hR3,hB3,_⟩;obtain ⟨A3,c3,rfl⟩:=Kd.aG hR3;have X3:=aa (Kd.bI hR3).2;have Y1:=aa (And.intro X1.1.1 (Kd.aN X1.1.2 hB3));have W3:=aa (W1.1.trans (hB3.mono W1.1.size));have HY3:=aa (show aq (l++be 4 (eH l)) from cR HY.1 (lY 4 _));have L3:=aa (show (l++be 4 (eH l)).length≤100000000 by rw [List.length_append,ia];omega);clear hR3 hB3 SE R2 W2 W1 X1;generalize l++be 4 (eH l)=l3 at X3 HY3 L3 ⊢;go_wp2_with fail;have ROW:=aa (aJ w3 (.cells #[.slice A1 l.length c1, .slice A3 l3.length c3] 32));have W4:=aa (ah W3.1 (.cells #[.slice A1 l.length c1, .slice A3 l3.length c3] 32));have Z1:=aa (And.intro Y1.1.1 (Kd.aN Y1.1.2 (ah (Below.refl _ w3) (.cells #[.slice A1 l.length c1, .slice A3 l3.length c3] 32))));have Z3:=aa (And.intro X3.1.1 (Kd.aN X3.1.2 (ah (Below.refl _ w3) (.cells #[.slice A1 l.length c1, .slice A3 l3.length c3] 32))));clear W3 Y1 X3;generalize World.alloc w3 _=w4 at ROW W4 Z1 Z3 ⊢;generalize w3.heap.size=rb at ROW ⊢;go_loopw [4] (fun v4 wr=>∃i:Nat,i≤2∧v4 = .int .i64 i∧af (Below w4.heap.size w4 wr)) (fun v _=>2 - (intOf v).toNat)
 case atStart=>exact ⟨0,by omega,rfl,⟨Below.refl _ _⟩⟩
 case round=>
  obtain ⟨i,hi,rfl,BW⟩:=hrel;by_cases hlt:i<2
  case neg=>
   go_wp2_with fail;go_ret;exact ⟨rfl,W4.1.trans (BW.1.mono W4.1.size)⟩
  obtain ⟨Ax,x,cx,hcell,XR,XC,XY,XL⟩:∃(Ax:Option Addr) (x:List Int) (cx:Nat),w4.cell? ⟨rb,i,none⟩=some (.slice Ax x.length cx)∧af (Kd.C (Kd.int .u8) wr Ax x.length x)∧af (x.length≤cx)∧af (aq x)∧af (x.length≤100000000):=by
   rcases dg i 1 with h|h
   ·rw [show i=0 by omega];exact ⟨A1,l,c1,cell_of ROW.1 0,⟨Kd.aN Z1.1.2 BW.1⟩,⟨Z1.1.1⟩,HY,⟨by omega⟩⟩
   ·rw [show i=1 by omega];exact ⟨A3,l3,c3,cell_of ROW.1 1,⟨Kd.aN Z3.1.2 BW.1⟩,⟨Z3.1.1⟩,HY3,L3⟩
  have HCell:=aa hcell;have x0:wr.cell? ⟨rb,i,none⟩=some (.slice Ax x.length cx):=an BW.1 hcell;have RK:=aa ((zg x Ax cx wr XR.1 XC.1 XL.1 XY.1).mono (fun e w' h=>h.flat));have RR:=aa (fun (w:World) (h:Below wr.heap.size wr w)=>(Gh x Ax cx w (Kd.aN XR.1 h) XC.1 (by have:=XL.1;omega) XY.1).mono (fun e w' h=>h.flat));rw [←ref.EO x XY.1] at RR;have HB:=aa (show oO ((lT x).getD FY) by
   cases h:lT x with
   | none=>exact zB
   | some s=>exact (ref.Ef x XY.1 s h).2.2.1)
  have HW:=aa (show ((if (lT x).isSome=true then 0 else 104:Int)=0→ni ((lT x).getD FY)=true∧gT (dV ((lT x).getD FY))=x)∧0≤(if (lT x).isSome=true then 0 else 104:Int)∧(if (lT x).isSome=true then 0 else 104:Int)≤1000 by
   cases h:lT x with
   | none=>exact ⟨fun k=>absurd k (by decide),by decide,by decide⟩
   | some s=>exact ⟨fun _=>⟨(ref.Ef x XY.1 s h).2.1,(ref.Ef x XY.1 s h).1⟩,by simp,by simp⟩)
  generalize (lT x).getD FY=s at RK RR HB HW;generalize (if (lT x).isSome=true then 0 else 104:Int)=er at RK RR HW;have hx2:(0:Int)≤i:=by omega
  clear hcell;go_wp2_with fail;refine RK.1.mono ?_;rintro e w5 ⟨P1,P2,P3,P6,p1,p2,p3,p6,rfl,hr,hB5⟩;have HR:=aa hr;have B5:=aa hB5;clear hr hB5 RK x0;go_upto_region 6 with ((with_reducible refine gS 5 30 rfl ?_);refine sB (jw s P1 P2 P3 P6 p1 p2 p3 p6) (aJ _ _) ?_;intro wz WZ GZ;have bl:=Fe (ah (Below.refl w5.heap.size w5) _) GZ.1 (Nat.le_refl _) (ah (Below.refl _ _) _).size;have N6:=WZ;have HR6:=aa (HR.1.below bl);have B6:=aa (B5.1.trans (bl.mono B5.1.size));clear WZ GZ bl HR B5;have HR:=HR6;clear HR6;generalize w5.heap.size=s5 at N6 ⊢;generalize wz=w6 at N6 HR B6 ⊢);have x0:w6.cell? ⟨rb,i,none⟩=some (.slice Ax x.length cx):=an (BW.1.trans (B6.1.mono BW.1.size)) HCell.1;go_wp2_with fail;refine (RR.1 w6 B6.1).mono ?_;rintro e w7 ⟨Q1,Q2,Q3,Q6,q1,q2,q3,q6,rfl,hq,hB7⟩;have HQ:=aa hq;have B7:=aa (B6.1.trans (hB7.mono B6.1.size));have HR7:=aa (HR.1.below hB7);have N7:=aa ((hB7.block _ (ak N6.1)).trans N6.1);clear hq hB7 RR x0 B6 HR N6;go_upto_region 7 with ((with_reducible refine gS 7 38 rfl ?_);refine sB (jw s Q1 Q2 Q3 Q6 q1 q2 q3 q6) (aJ _ _) ?_;intro wz WZ GZ;have bl:=Fe (ah (Below.refl w7.heap.size w7) _) GZ.1 (Nat.le_refl _) (ah (Below.refl _ _) _).size;have O8:=WZ;have HR8:=aa (HR7.1.below bl);have HQ8:=aa (HQ.1.below bl);have B8:=aa (B7.1.trans (bl.mono B7.1.size));have N8:=aa ((bl.block _ (ak N7.1)).trans N7.1);clear WZ GZ bl HR7 HQ B7 N7;generalize w7.heap.size=s7 at O8 ⊢;generalize wz=w8 at O8 HR8 HQ8 B8 N8 ⊢);go_wp2_with (first|((with_reducible refine az (N:=40) rfl ?_);refine lB N8.1 Tryz.underlying30 ?_)|((with_reducible refine az (N:=41) rfl ?_);refine lB O8.1 Tryz.underlying30 ?_));refine (ref.sL s P1 P2 P3 P6 Q1 Q2 Q3 Q6 p1 p2 p3 p6 q1 q2 q3 q6 w8 HR8.1 HQ8.1 HB.1).mono ?_;rintro e w9 ⟨rfl,hB9⟩;have B9:=aa (B8.1.trans (hB9.mono B8.1.size));have HR9:=aa (HR8.1.below hB9);have N9:=aa ((hB9.block _ (ak N8.1)).trans N8.1);clear hB9 B8 HR8 HQ8 N8 O8;have NU:=aa (ref.C7 er HW.1.2.1 HW.1.2.2 w9);go_wp2_with fail;refine NU.1.mono ?_;rintro e w10 ⟨rfl,hB10⟩;have B10:=aa (B9.1.trans (hB10.mono B9.1.size));have HR10:=aa (HR9.1.below hB10);have N10:=aa ((hB10.block _ (ak N9.1)).trans N9.1);clear hB10 B9 HR9 N9 NU;have hne:(er != er)=false:=by simp
  by_cases h0:er=0
  case neg=>
   have h0b:(er == 0)=false:=by simpa using h0
   clear h0;go_wp2_with fail;go_roundw
   case rel=>exact ⟨i+1,by omega,by go_num,⟨BW.1.trans (B10.1.mono BW.1.size)⟩⟩
   case measure=>
    show 2 - ((i:Int)+1).toNat<2 - (i:Int).toNat;omega
  have h0b:(er == 0)=true:=by simpa using h0
  have HW2:=aa (HW.1.1 h0);have SV:=aa (Cd s P1 P2 P3 P6 p1 p2 p3 p6 w10 HR10.1 HB.1);clear h0 HW;go_wp2_with ((with_reducible refine az (N:=54) rfl ?_);refine lB N10.1 Tryz.underlying30 ?_);refine SV.1.mono ?_;rintro e w11 ⟨hB11,hS⟩;rw [if_pos HW2.1.1,HW2.1.2] at hS;obtain ⟨v,rfl,hR⟩:=hS;obtain ⟨Ab,cb,rfl⟩:=Kd.aG hR;have B11:=aa (B10.1.trans (hB11.mono B10.1.size));have hcv:=fun n=>Kd.cT (P:=Tryz.prog) (A:=Ab) (c:=cb) Tryz.underlying32 Tryz.underlying5 Tryz.underlying9 (Kd.dZ (Kd.bI hR).2.2 n);have hcw:=fun n=>Kd.cT (P:=Tryz.prog) (A:=Ax) (c:=cx) Tryz.underlying32 Tryz.underlying5 Tryz.underlying9 (Kd.dZ (Kd.aN XR.1 B11.1) n);have x0:w11.cell? ⟨rb,i,none⟩=some (.slice Ax x.length cx):=an (BW.1.trans (B11.1.mono BW.1.size)) HCell.1;clear hB11 hR B10 SV N10 HR10;go_wp2_with fail;go_quiet (fail);go_wp2_with fail;go_roundw
  case rel=>exact ⟨i+1,by omega,by go_num,⟨BW.1.trans ((ai B11.1 _).mono BW.1.size)⟩⟩
  case measure=>
   show 2 - ((i:Int)+1).toNat<2 - (i:Int).toNat;omega
end Go.Proofs.YtpekmdpbfjdjkaaGreat.dO
namespace Go.Proofs.YtpekmdpbfjdjkaaGreat.Ev
open Go.ChangeShapes Go.WideShapes Go.ChangeAt Go.RowKit
open ag.ax ag.aV ag.aU aD opens dO cL
theorem own:ownKnob Tryz.prog.godebug=none:=by kernel_rfl
theorem laidOut:laidOutB Tryz.prog=true:=by kernel_rfl
theorem Df (l:List Int):(l.map fun _=>1).sum=l.length:=by
 induction l with
 | nil=>rfl
 | cons x l ih=>simp only [List.map_cons,List.sum_cons,List.length_cons,ih];omega
theorem qt {n:Int} (h:(Lit.int .u8 n).wf=true):0≤n∧n≤255:=by simpa [Lit.wf,IntKind.min,IntKind.max,IntKind.signed,IntKind.bits] using h
theorem kA:iB Tryz.prog 32 (Kd.slice 5 (Kd.int .u8)) (fun l=>l.length) aq:=
 gH (fN Tryz.underlying32 (by kernel_rfl) (dW Tryz.underlying5)) (fun l=>by simp only [Df];omega) (fun l h c hc=>qt (h c hc))
theorem contract (H:Type) (enc:TypeId × Value→H) (W:World) (base:Nat) (args:Array Value) (ds gs:List (DataW H)) (before:List MemPlace)
 (hval0:∀(j:Nat) t v,Tryz.f4.params[j]? = some t→args[j]? = some v→Value.okWide Tryz.prog W .any base t v)
 (hW:DataW.Whole enc Tryz.prog Tryz.f4.params.toList Rows.coreReadsSpec.vars false W args.toList ds gs before) (hk:Rows.uptoSmall H (ds++gs)=true) :
 Calls Tryz.prog 4 args W fun e W'=>∃v,e = .returned v∧Rows.coreReadsSpec.post enc Tryz.prog Tryz.f4 false true false false W args v W':=by
 have hval:∀(j:Nat) t v,Tryz.f4.params[j]? = some t→args[j]? = some v→Value.okWide Tryz.prog W .any base t v:=hval0;have hW':=hW;obtain ⟨p,q,hA0,hV,rfl,hfz,hnd⟩:=hW;have hA:DataW.TrodAll enc Tryz.prog W 0 (fun _=>true) true Tryz.f4.params.toList args.toList ds p:=hA0;rw [Tryz.params4] at hA hval;obtain ⟨v0,vs0,d0,ds0,p0,q0,hargs,rfl,rfl,h0,r0⟩:=trodAll_cons hA;obtain ⟨rfl,rfl,rfl⟩:=trodAll_nil r0;obtain rfl:args=#[v0]:=by cases args;simp_all
 obtain ⟨rfl,rfl⟩:=trodVars_none hV;obtain ⟨a0,len0,cap0,rfl⟩:=okWide_slice Tryz.underlying32 (hval 0 32 v0 rfl rfl);have k0:=h0;have lt0:∀x∈p0,x.block<W.heap.size:=by obtain ⟨m,hm⟩:=k0;exact DataW.trod_lt m _ _ _ hm
 obtain ⟨fuel,hf⟩:=h0;obtain ⟨l0,⟨A,c,he,hl,hC⟩,hw,hy⟩:=kA H enc W _ _ _ fuel _ _ hf;have he':(Value.slice a0 len0 cap0) = .slice A l0.length c:=by simpa [Value.cells] using he
 injection he' with e1 e2 e3;subst e1;subst e2;subst e3;have hbk:=bound hk;simp only [bM,Rows.uptoBulkAll] at hbk;clear hA0 hval0;simp only [bM] at hW';refine (Fv l0 a0 cap0 W hC hl (by have h3:l0.length≤Rows.uptoBulk d0:=hw;omega) hy).mono fun e W' ⟨he,bel⟩=>?_;subst he;exact ⟨_,rfl,_,_,_,[],_,[],hW',trodAll_mk1 (shut_bool Tryz.underlying4 _),(trodAll_cons_mk (Below.trod laidOut (by kernel_rfl) (of_decide_eq_true (by kernel_rfl)) k0 bel lt0) trodAll_mk0),rfl,bel.frame _,fun h=>by cases h⟩
theorem lifted (os:Os) (started:os.Started) (H:Type) (enc:TypeId × Value→H) (F:Stop.Interp) :
 ReturnsInHanded {} Tryz.checked os 4 .any ((Rows.OpenSpec.upto Rows.coreReadsSpec).pre6 enc Tryz.prog Tryz.f4 Rows.coreReadsUptoRow.domain false) (((Rows.OpenSpec.upto Rows.coreReadsSpec).at F).post enc Tryz.prog Tryz.f4 false true false false):=by
 refine returnsInHanded_of_cond (C:=Tryz.checked) (s:=Rows.OpenSpec.upto Rows.coreReadsSpec) (k:=Rows.uptoSmall) rfl own started (by kernel_rfl) Tryz.func4
  (OpenSpec.witness (enc:=enc) (C:=Tryz.checked) (s:=Rows.OpenSpec.upto Rows.coreReadsSpec) (k:=Rows.uptoSmall) rfl false ⟨#[],#[.slice none 0 0],[]⟩ 8 (by kernel_rfl) (by kernel_rfl) (by kernel_rfl)
   (x:=([.nil],[],[])) (by kernel_rfl) rfl (by kernel_rfl)) ?_
 intro W base args ds gs before hval hW _ hk _;exact contract H enc W base args ds gs before hval hW hk
theorem qc:Rows.coreReadsUptoRow.holds Tryz.pinned (Rows.OpenSpec.upto Rows.coreReadsSpec):=
 OpenClaim.holds_of_cond 4 Tryz.f4 rfl rfl rfl rfl rfl rfl rfl ⟨rfl,rfl,rfl,rfl,rfl⟩ rfl rfl rfl rfl rfl (by kernel_rfl) Tryz.func4 (by kernel_rfl)
  (of_decide_eq_true (by kernel_rfl)) (by unfold Func.isWrapper;first|(rw [if_pos (by decide +kernel)];kernel_rfl)|(rw [if_neg (by decide +kernel)];exact ⟨rfl,rfl⟩))
  (fun os started H enc _ F=>lifted os started H enc F)
theorem zV:Rows.CoreReadsUptoSaid:=qc
end Go.Proofs.YtpekmdpbfjdjkaaGreat.Ev
namespace Go.Proofs.YtpekmdpbfjdjkaaGreat
theorem coreReads_holds:Rows.CoreReadsUptoSaid:=Ev.zV
end Go.Proofs.YtpekmdpbfjdjkaaGreat