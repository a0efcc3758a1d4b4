/- Part 17 of the proof that reading bytes answers as the document does. No condition. -/
import Derived.Test.YtpekmdpbfjdjkaaGreatY16
set_option maxHeartbeats 16000000
set_option maxRecDepth 100000
set_option linter.all false
namespace Go.Proofs.YtpekmdpbfjdjkaaGreat.dO
open Go Go.RowKit ag.ax ag.aV ag.aU aD fr iK cL plain fE
theorem oZ {ts:List Nat} {W w w':World} {g:Option Nat} (h:Mv ts W w) (hg:w.grownBy w' g) (hn:∀k,g=some k→W.heap.size≤k):Mv ts W w':=
 ⟨hg.os.trans h.os,hg.tape.trans h.tape,hg.output.trans h.output,Nat.le_trans h.size hg.size,fun i cs t f hi ht=>by
  have h1:=h.block i cs t f hi ht;have hl:=ak hi;exact (hg.block i (ak h1) (fun e=>by have:=hn i e.symm;omega)).trans h1⟩
structure Rq (W0 W1 W:World) (base br:Nat) (s:List Int × Int):Prop extends Rs W0 W base br s where
 mv:Mv TR W1 W
 c1:base≤W1.heap.size
theorem Rq.read {W0 W1 W W':World} {base br:Nat} {s s':List Int × Int} (h:Rq W0 W1 W base br s) (r:Rs W0 W' base br s') (m:Mv TR W W'):Rq W0 W1 W' base br s':=⟨r,h.mv.trans m,h.c1⟩
theorem Rq.grow {W0 W1 W W':World} {base br:Nat} {s:List Int × Int} (h:Rq W0 W1 W base br s) (hb:Below W.heap.size W W'):Rq W0 W1 W' base br s:=⟨h.toRs.grow hb,h.mv.trans (Mv.cH hb),h.c1⟩
theorem Rq.set {W0 W1 W W':World} {base br t g:Nat} {s:List Int × Int} {cs:Array Value} {f:Nat × Nat} (h:Rq W0 W1 W base br s) (hg:W.grownBy W' (some g)) (hb:W.heap[g]? = some (.cells cs t f)) (ht:t∈RT) (hr:t≠151) (hB:W1.heap.size≤g):Rq W0 W1 W' base br s:=
 ⟨h.toRs.set hg hb ht hr (Nat.le_trans h.c1 hB),oZ h.mv hg (fun k e=>by injection e with e;omega),h.c1⟩
theorem Rq.row {W0 W1 W W':World} {base br e:Nat} {α:Type} {d:Kd α} {lo:Nat} {ok:Nat→Prop} {v:Value} {xs:List α} {s:List Int × Int} (h:Rq W0 W1 W base br s) (hg:W.grownBy W' v.ownBlock) (hr:d.R e W lo ok v xs) (ht:e∈RT) (hne:e≠151) (hB:W1.heap.size≤lo):Rq W0 W1 W' base br s:=
 ⟨h.toRs.row hg hr ht hne (Nat.le_trans h.c1 hB),oZ h.mv hg (fun k e=>Nat.le_trans hB (mi hr k e).1),h.c1⟩
theorem nN {s:List Int × Int} (h:aq s.1):0≤(aZ 1 s).1∧(aZ 1 s).1≤255:=by
 have:=gC (n:=1) h;omega
def sk (a b:Int) (vq:Value) (c d:Int) (ve:Value):Array Value:=#[.int .u64 a, .int .u64 b,vq, .int .u64 c, .int .u64 d,ve]
def DO (W0 W:World) (base br:Nat) (s:List Int × Int) (e:Ending) (w':World):Prop:=∃v,e = .returned (.agg #[v])∧Kd.R ld 68 w' W.heap.size (fun _=>True) v (pX s).1∧Rs W0 w' base br (pX s).2∧Mv TR W w'
theorem wD (W0 W:World) (base br:Nat) (s:List Int × Int) (h:Rs W0 W base br s) :
 Calls Tryz.prog 43 #[.pointer (some ⟨br,0,none⟩)] W (DO W0 W base br s):=by
 have hu28:=Tryz.underlying28;have hu68:=Tryz.underlying68;have hu99:=Tryz.underlying99;have HH:=aa h;have NB:=aa (nN h.Af);clear h;go_in;go_wp2_with fail;have RB:=aa (aJ W (.cells #[.slice none 0 0] 28));have EB:=aa (vr W (.cells #[.slice none 0 0] 28) #[.slice none 0 0] 28);have BA:=aa (ah (Below.refl _ W) (.cells #[.slice none 0 0] 28));have BB:=aa (ah (Below.refl _ (W.alloc (.cells #[.slice none 0 0] 28))) (.cells #[.slice none 0 0] 28));have SA:=aa (show (W.alloc (.cells #[.slice none 0 0] 28)).heap.size=W.heap.size+1 from cW _);have SB:=aa (show ((W.alloc (.cells #[.slice none 0 0] 28)).alloc (.cells #[.slice none 0 0] 28)).heap.size=W.heap.size+1+1 by rw [←SA.1];exact cW _);have Q1:=aa (show Rq W0 (W.alloc (.cells #[.slice none 0 0] 28)) (W.alloc (.cells #[.slice none 0 0] 28)) base br s from ⟨HH.1.grow BA.1,Mv.refl _ _,Nat.le_trans HH.1.b2 BA.1.size⟩);have Q2:=aa (Q1.1.grow BB.1);have P2:=aa (show Kd.R ld 68 ((W.alloc (.cells #[.slice none 0 0] 28)).alloc (.cells #[.slice none 0 0] 28)) (W.heap.size+1+1) (fun _=>True) (.slice none 0 0) [] from Kd.cY _ _ _ _ _);generalize World.alloc (World.alloc W _) _=w2 at EB Q2 P2 SB BB ⊢;generalize hW1:World.alloc W _=W1 at Q2 RB SA BA BB;clear Q1 hW1;generalize hrb:W.heap.size=rb at RB EB P2 SA SB ⊢;refine (zR Q2.1.toRs).mono ?_;rintro e w3 ⟨rfl,hs,hm⟩;have Q3:=aa (Q2.1.read hs hm);have E3:=aa (hm.at EB.1 (by decide));have P3:=aa (dF P2.1 hm (by decide));clear hs hm Q2 EB P2;obtain ⟨n,hn⟩:=Int.eq_ofNat_of_zero_le NB.1.1;generalize hT:pX s=T;have TT:=aa hT;have T3:=aa (show (([]:List gX)++(fe n (aZ 1 s).2).1,(fe n (aZ 1 s).2).2)=T by rw [←hT,pX,hn];rfl);have N3:=aa (show n≤255 by have:=NB.1;omega);have hnb:(n:Int)≤255:=by have:=NB.1;omega
 rw [hn];generalize (aZ 1 s).2=s3 at Q3 T3;clear hT hn NB;go_wp2_with fail;go_loopw [4] (fun v4 wr=>∃(m:Nat) (s':List Int × Int) (acc:List gX) (vp:Value),v4 = .int .i64 m∧af (m≤255)∧af (Rq W0 W1 wr base br s')∧af (wr.heap[rb+1]? = some (.cells #[vp] 28 (0,0)))∧af (ld.R 68 wr (rb+1+1) (fun _=>True) vp acc)∧af ((acc++(fe m s').1,(fe m s').2)=T)∧af (acc.length+m≤255)) (fun v _=>(intOf v).toNat)
 case atStart=>exact ⟨n,s3,[],_,rfl,N3,Q3,E3,P3,T3,⟨by have:=N3.1;simpa using this⟩⟩
 case round=>
  obtain ⟨m,s',acc,vp,rfl,M,QQ,EE,PP,TJ,AC⟩:=hrel;clear N3 Q3 E3 P3 T3;generalize wr=wq at QQ EE PP ⊢;have hmb:=M.1;cases m with
  | zero=>
   have TE:=aa (show (acc,s')=T by have h:=TJ.1;rw [fe,bM] at h;exact h);have SAo:=SA.1;have SBo:=SB.1;obtain ⟨Ap,cp,rfl⟩:=Kd.aG PP.1;have RBq:=aa (QQ.1.mv.at RB.1 (by decide));have ez:wq.cell? ⟨rb+1,0,none⟩=some (.slice Ap acc.length cp):=cell_of EE.1 0;go_wp2_with ((with_reducible refine gS 2 64 rfl ?_);refine sB #[.slice Ap acc.length cp] RBq.1 ?_;intro wz WZ GZ);refine gO (results_cell_row rfl _ _ rb _ _ _ _ rfl WZ.1 hu28 rfl (by kernel_rfl)) rfl ?_;refine ⟨_,rfl,?_,?_,?_⟩
   ·rw [TT.1,←TE.1];exact Kd.cI (iO PP.1 GZ.1 (by omega)) (by omega)
   ·rw [TT.1,←TE.1];exact QQ.1.toRs.set GZ.1 RBq.1 (by decide) (by decide) (by have:=HH.1.b2;omega)
   ·exact oZ ((Mv.cH BA.1).trans QQ.1.mv) GZ.1 (fun k e=>by injection e with e;omega)
  | succ m=>
  have SE:=aa (Di QQ.1.toRs);go_wp2_with fail;refine SE.1.mono ?_;rintro e w4 ⟨rfl,rfl⟩;clear SE;by_cases he:s'.2=0
  case neg=>
   have heb:(s'.2 == 0)=false:=by rw [bi];exact he
   have TE:=aa (show (acc,s')=T by have h:=TJ.1;rw [fe,if_neg he,bM] at h;exact h);have SAo:=SA.1;have SBo:=SB.1;clear TJ he;generalize w4=wq at QQ EE PP ⊢;obtain ⟨Ap,cp,rfl⟩:=Kd.aG PP.1;have RBq:=aa (QQ.1.mv.at RB.1 (by decide));have ez:wq.cell? ⟨rb+1,0,none⟩=some (.slice Ap acc.length cp):=cell_of EE.1 0;go_wp2_with ((with_reducible refine gS 2 64 rfl ?_);refine sB #[.slice Ap acc.length cp] RBq.1 ?_;intro wz WZ GZ);refine gO (results_cell_row rfl _ _ rb _ _ _ _ rfl WZ.1 hu28 rfl (by kernel_rfl)) rfl ?_;refine ⟨_,rfl,?_,?_,?_⟩
   ·rw [TT.1,←TE.1];exact Kd.cI (iO PP.1 GZ.1 (by omega)) (by omega)
   ·rw [TT.1,←TE.1];exact QQ.1.toRs.set GZ.1 RBq.1 (by decide) (by decide) (by have:=HH.1.b2;omega)
   ·exact oZ ((Mv.cH BA.1).trans QQ.1.mv) GZ.1 (fun k e=>by injection e with e;omega)
  have heb:(s'.2 == 0)=true:=by rw [gw];exact he
  have TE:=aa (show (acc++(jI s').1::(fe m (jI s').2).1,(fe m (jI s').2).2)=T by have h:=TJ.1;rw [fe,if_pos he] at h;exact h);clear TJ he;have Q10:=QQ;have EB10:=EE;have P10:=aa (Row.top PP.1);have N0:=aa (show rb+1+1≤w4.heap.size by have:=QQ.1.mv.size;have h:=ak EE.1;omega);generalize hn0:w4.heap.size=n0 at P10 N0;have N10:=aa (kJ hn0.symm);clear QQ EE PP hn0;go_wp2_with fail;refine (pZ Q10.1.toRs).mono ?_;rintro e w11 ⟨rfl,hs,hm⟩;have Q11:=aa (Q10.1.read hs hm);have EB11:=aa (hm.at EB10.1 (by decide));have P11:=aa (Row.read P10.1 hm (by decide));have N11:=aa (Nat.le_trans N10.1 hm.size);clear hs hm N10 Q10 EB10 P10;generalize Ha:aZ 8 s'=a at Q11 ⊢;go_wp2_with fail;refine (pZ Q11.1.toRs).mono ?_;rintro e w12 ⟨rfl,hs,hm⟩;have Q12:=aa (Q11.1.read hs hm);have EB12:=aa (hm.at EB11.1 (by decide));have P12:=aa (Row.read P11.1 hm (by decide));have N12:=aa (Nat.le_trans N11.1 hm.size);clear hs hm N11 Q11 EB11 P11;generalize Hb_:aZ 8 a.2=b_ at Q12 ⊢;go_wp2_with fail;refine (pZ Q12.1.toRs).mono ?_;rintro e w13 ⟨rfl,hs,hm⟩;have Q13:=aa (Q12.1.read hs hm);have EB13:=aa (hm.at EB12.1 (by decide));have P13:=aa (Row.read P12.1 hm (by decide));have N13:=aa (Nat.le_trans N12.1 hm.size);clear hs hm N12 Q12 EB12 P12;generalize Hc:aZ 8 b_.2=c at Q13 ⊢;go_wp2_with fail;refine (pZ Q13.1.toRs).mono ?_;rintro e w14 ⟨rfl,hs,hm⟩;have Q14:=aa (Q13.1.read hs hm);have EB14:=aa (hm.at EB13.1 (by decide));have P14:=aa (Row.read P13.1 hm (by decide));have N14:=aa (Nat.le_trans N13.1 hm.size);clear hs hm N13 Q13 EB13 P13;generalize Hd:aZ 8 c.2=d at Q14 ⊢;go_wp2_with fail;have PB15:=aa (aJ w14 (.cells #[.int .u64 a.1, .int .u64 b_.1, .slice none 0 0, .int .u64 c.1, .int .u64 d.1, .slice none 0 0] 68));have Q15:=aa (Q14.1.grow (ah (Below.refl _ w14) (.cells #[.int .u64 a.1, .int .u64 b_.1, .slice none 0 0, .int .u64 c.1, .int .u64 d.1, .slice none 0 0] 68)));have EB15:=aa ((cm w14 (.cells #[.int .u64 a.1, .int .u64 b_.1, .slice none 0 0, .int .u64 c.1, .int .u64 d.1, .slice none 0 0] 68) _ (ak EB14.1)).trans EB14.1);have P15:=aa (Row.below P14.1 (ah (Below.refl _ w14) (.cells #[.int .u64 a.1, .int .u64 b_.1, .slice none 0 0, .int .u64 c.1, .int .u64 d.1, .slice none 0 0] 68)));have LO2:=aa (show (w14.alloc (.cells #[.int .u64 a.1, .int .u64 b_.1, .slice none 0 0, .int .u64 c.1, .int .u64 d.1, .slice none 0 0] 68)).heap.size=w14.heap.size+1 from cW _);have PN:=aa (show n0≤w14.heap.size from N14.1);generalize World.alloc w14 _=w15 at PB15 Q15 EB15 P15 LO2 ⊢;generalize w14.heap.size=pb at PB15 LO2 PN ⊢;have N15:=aa (show pb+1≤w15.heap.size by rw [LO2.1];omega);clear Q14 EB14 P14 N14 LO2;have BYQ:=aa Q15.1.Af;refine (zY 16 (by omega) Q15.1.toRs).mono ?_;rintro e w16 ⟨rfl,hs,hm⟩;have Q16:=aa (Q15.1.read hs hm);have EB16:=aa (hm.at EB15.1 (by decide));have PB16:=aa (hm.at PB15.1 (by decide));have P16:=aa (Row.read P15.1 hm (by decide));have N16:=aa (Nat.le_trans N15.1 hm.size);clear hs hm N15 Q15 EB15 PB15 P15;generalize Hk:bL 16 d.2=k at Q16 ⊢;have KB:=aa (show 0≤k.1∧k.1≤16 by rw [←Hk];have:=dJ 16 d.2 BYQ.1;omega);obtain ⟨j0,hj0⟩:=Int.eq_ofNat_of_zero_le KB.1.1;have J0:=aa (show j0≤16 by have:=KB.1;omega);have hj0b:(j0:Int)≤16:=by have:=J0.1;omega
  rw [hj0];generalize hQT:cn (bX 3072) j0 k.2=QT;have TQ:=aa (show (([]:List (List Int))++(cn (bX 3072) j0 k.2).1,(cn (bX 3072) j0 k.2).2)=QT from hQT);have HQT:=aa (show cn (bX 3072) k.1.toNat k.2=QT by rw [hj0];exact hQT);clear hQT;go_wp2_with fail;go_loopw [6] (fun v6 wr=>∃(j:Nat) (s2:List Int × Int) (qa:List (List Int)) (vq:Value),v6 = .int .i64 j∧af (Rq W0 W1 wr base br s2)∧af (wr.heap[rb+1]? = some (.cells #[vp] 28 (0,0)))∧af (Row ld 68 wr (rb+1+1) n0 vp acc)∧af (wr.heap[pb]? = some (.cells (sk a.1 b_.1 vq c.1 d.1 (.slice none 0 0)) 68 (0,0)))∧af (Kd.R (Kd.slice 5 (Kd.int .u8)) 32 wr (pb+1) (fun _=>True) vq qa)∧af ((qa++(cn (bX 3072) j s2).1,(cn (bX 3072) j s2).2)=QT)∧af (qa.length+j≤16)∧af (pb+1≤wr.heap.size)) (fun v _=>(intOf v).toNat)
  case atStart=>exact ⟨j0,k.2,[],_,rfl,Q16,EB16,P16,PB16,⟨Kd.cY _ _ _ _ _⟩,TQ,⟨by simpa using J0.1⟩,N16⟩
  case round=>
   obtain ⟨j,s2,qa,vq,rfl,Q,EB,P,PB,R,TJ,QL,SZ⟩:=hrel;clear Q16 EB16 P16 PB16 TQ N16;generalize wr=wj at Q EB P PB R SZ ⊢;obtain ⟨Aq,cq,rfl⟩:=Kd.aG R.1;have hjb:=QL.1;cases j with
   | succ j=>
    have hdec:wrap64 (((j+1:Nat):Int) - 1)=(j:Int):=by rw [IntWalk.wrap64_in _ (by omega)];omega
    have hdec2:IntKind.i64.wrap (((j+1:Nat):Int) - 1)=(j:Int):=by rw [aA _ (by omega)];omega
    have hjp:(0:Int)<((j+1:Nat):Int):=by omega
    have c2:wj.cell? ⟨pb,2,none⟩=some (.slice Aq qa.length cq):=cell_of PB.1 2;have Qd:=aa (Q.1.grow (Below.refl _ wj).drew);have RU:=aa (mi R.1);have RD:=aa (show Kd.R (Kd.slice 5 (Kd.int .u8)) 32 wj.drew (pb+1) (fun _=>True) (.slice Aq qa.length cq) qa from Kd.dc R.1);have PD:=aa (show Row ld 68 wj.drew (rb+1+1) n0 vp acc from Kd.dc P.1);have BB1:=aa (eE 3072 s2 Q.1.Af);go_wp2_with fail;refine hY (fun w'=>w'.cell? ⟨pb,2,none⟩=some (.slice Aq qa.length cq)) 5 [(0,0),(1,1),(2,0),(3,2),(4,2)] (by kernel_rfl) (by kernel_rfl) (fun _ _ _ _ _ h=>h) c2 ?_;iterate 1 (refine eF ?_;simp only [cS,Act.put])
    iterate 1 (refine aQ (v:=?_) rfl rfl ?_ ?_;rotate_left 1;(focus (intro w hSw;go_simp;try (with_reducible rfl)));simp only [cS,Act.put])
    iterate 1 (refine eF ?_;simp only [cS,Act.put])
    refine aT rfl ?_;go_wp2_with fail;refine (Dj 3072 (by omega) Qd.1.toRs).mono ?_;rintro e w5 ⟨Ay,cy,rfl,hRy,hs,hm⟩;have Q5:=aa (Qd.1.read hs hm);have EB5:=aa (hm.at (show wj.drew.heap[rb+1]? = _ from EB.1) (by decide));have PB5:=aa (hm.at (show wj.drew.heap[pb]? = _ from PB.1) (by decide));have P5:=aa (Row.read PD.1 hm (by decide));have R5:=aa (dF RD.1 hm (by decide));have M5:=aa (show (Kd.slice 5 (Kd.int .u8)).M w5 (pb+1) (fun k=>wj.heap.size≤k) (bX 3072 s2).1 [.slice Ay (bX 3072 s2).1.length cy] from ⟨_,rfl,Kd.cI (Kd.bZ (Kd.bS hRy) (fun k hk=>hk.2.1)) SZ.1⟩);have O5:=aa (show ∀k,wj.heap.size≤k→True∧some k≠(Value.slice Aq qa.length cq).ownBlock from fun k hk=>⟨trivial,fun e=>by have:=(RU.1 k e.symm).2;omega⟩);have SZ5:=aa (Nat.le_trans SZ.1 hm.size);have d2:w5.cell? ⟨pb,2,none⟩=some (.slice Aq qa.length cq):=cell_of PB5.1 2;have T5:=aa (show ((qa++[(bX 3072 s2).1])++(cn (bX 3072) j (bX 3072 s2).2).1,(cn (bX 3072) j (bX 3072 s2).2).2)=QT by have h:=TJ.1;rw [cn] at h;rw [List.append_assoc];exact h);clear hs hm hRy Q EB P PB R TJ Qd RD PD c2;generalize bX 3072 s2=y at Q5 M5 T5 BB1 ⊢;go_wp2_with fail;refine bB.mk d2 (fun hSw=>?_);clear hSw;refine aT rfl ?_;go_wp2_with fail;refine bB.mk ((eT _ _ _ (ak PB5.1)).trans d2) (fun hSw=>?_);clear hSw d2;refine bC ?_;simp only [aC,List.drop_zero];go_wp2_with (first
     | ((with_reducible refine aM (b:= .append) (xs:=#[.tmp 36, .tmp 39]) rfl ?_);at_builtin;refine Kd.cG (Kd.slice 5 (Kd.int .u8)) (w0:=w5) (pb+1) rfl (.tmp 36) (.tmp 39) 46 32 (.slice none 0 0) 24 rfl Tryz.underlying46 sd rfl (by decide) (by omega) (.slice Aq qa.length cq) qa y.1 [.slice Ay y.1.length cy] (fun _=>True) (fun k=>wj.heap.size≤k) rfl rfl ?aP ?aK (fun _ _=>trivial) ?aO ?aB ?aS ?aL ?_;(case aP=>exact M5.1);(case aK=>exact O5.1);(case aO=>exact R5.1);(case aB=>exact Below.refl _ _);(case aS=>exact SZ5.1);(case aL=>have:=QL.1;omega);intro v1 w6 h1 h2 h3 h4;obtain ⟨A1,k1,hv⟩:=Kd.aG h1;rw [List.length_append,List.length_singleton] at hv;subst hv;have R6:=aa h1;have Q6:=aa (Q5.1.row h3 R5.1 (by decide) (by decide) (by have:=SA.1;have:=PN.1;have:=N0.1;omega));have EB6:=aa ((h3.block _ (ak EB5.1) (fun e=>by have:=(mi R5.1 _ e.symm).1;have:=PN.1;have:=N0.1;omega)).trans EB5.1);have PB6:=aa ((h3.block _ (ak PB5.1) (fun e=>by have:=(mi R5.1 _ e.symm).1;omega)).trans PB5.1);have P6:=aa (Row.nh P5.1 h3 (n:=pb+1) (by have:=PN.1;omega) (fun k e=>(mi R5.1 k e).1));have SZ6:=aa (Nat.le_trans SZ5.1 h3.size);clear h1 h2 h3 h4)
     | ((with_reducible refine gS 41 40 rfl ?_);refine sC 2 (.slice A1 (qa.length+1) k1) (sk a.1 b_.1 (.slice A1 (qa.length+1) k1) c.1 d.1 (.slice none 0 0)) PB6.1 ?_;intro w7 PB7 hG;have Q7:=aa (Q6.1.set hG.1 PB6.1 (by decide) (by decide) (by have:=SA.1;have:=PN.1;have:=N0.1;omega));have EB7:=aa ((hG.1.block _ (ak EB6.1) (fun e=>by injection e with e;have:=PN.1;have:=N0.1;omega)).trans EB6.1);have P7:=aa (Row.set P6.1 hG.1 (.inr PN.1));have R7:=aa (iO R6.1 hG.1 (by omega));have SZ7:=aa (Nat.le_trans SZ6.1 hG.1.size)))
    go_roundw
    case rel=>exact ⟨j,y.2,qa++[y.1],_,by first|rfl|(rw [hdec]),Q7,EB7,P7,PB7,R7,T5,⟨by rw [List.length_append];simp;omega⟩,SZ7⟩
    case measure=>first|(simp [intOf];done)|(rw [hdec];show (j:Int).toNat<((j+1:Nat):Int).toNat;omega)|(show (j:Int).toNat<((j+1:Nat):Int).toNat;omega)
   | zero=>
    have TQ2:=aa (show (qa,s2)=QT by have h:=TJ.1;rw [cn,bM] at h;exact h);have Q20:=Q;have EB20:=EB;have P20:=P;have PB20:=PB;have G20:=aa (Row.top R.1);have PM:=aa SZ.1;generalize hm0:wj.heap.size=m0 at G20 PM;have N20:=aa (kJ hm0.symm);clear Q EB P PB R TJ QL SZ hm0;go_wp2_with fail;have BYQ2:=aa Q20.1.Af;refine (zY 16 (by omega) Q20.1.toRs).mono ?_;rintro e w21 ⟨rfl,hs,hm⟩;have Q21:=aa (Q20.1.read hs hm);have EB21:=aa (hm.at EB20.1 (by decide));have PB21:=aa (hm.at PB20.1 (by decide));have P21:=aa (Row.read P20.1 hm (by decide));have G21:=aa (Row.read G20.1 hm (by decide));have N21:=aa (Nat.le_trans N20.1 hm.size);clear hs hm N20 Q20 EB20 PB20 P20 G20;generalize Hk2:bL 16 s2=k2 at Q21 ⊢;have KB2:=aa (show 0≤k2.1∧k2.1≤16 by rw [←Hk2];have:=dJ 16 s2 BYQ2.1;omega);obtain ⟨j1,hj1⟩:=Int.eq_ofNat_of_zero_le KB2.1.1;have J1:=aa (show j1≤16 by have:=KB2.1;omega);have hj1b:(j1:Int)≤16:=by have:=J1.1;omega
    rw [hj1];generalize hET:cn qN j1 k2.2=ET;have TF:=aa (show (([]:List jE)++(cn qN j1 k2.2).1,(cn qN j1 k2.2).2)=ET from hET);have HET:=aa (show cn qN k2.1.toNat k2.2=ET by rw [hj1];exact hET);clear hET;go_wp2_with fail;go_loopw [7] (fun v7 wr=>∃(j:Nat) (s3:List Int × Int) (es:List jE) (ve:Value),v7 = .int .i64 j∧af (Rq W0 W1 wr base br s3)∧af (wr.heap[rb+1]? = some (.cells #[vp] 28 (0,0)))∧af (Row ld 68 wr (rb+1+1) n0 vp acc)∧af (wr.heap[pb]? = some (.cells (sk a.1 b_.1 (.slice Aq qa.length cq) c.1 d.1 ve) 68 (0,0)))∧af (Row (Kd.slice 5 (Kd.int .u8)) 32 wr (pb+1) m0 (.slice Aq qa.length cq) qa)∧af (Kd.R jC 99 wr m0 (fun _=>True) ve es)∧af ((es++(cn qN j s3).1,(cn qN j s3).2)=ET)∧af (es.length+j≤16)∧af (m0≤wr.heap.size)) (fun v _=>(intOf v).toNat)
    case atStart=>exact ⟨j1,k2.2,[],_,rfl,Q21,EB21,P21,PB21,G21,⟨Kd.cY _ _ _ _ _⟩,TF,⟨by simpa using J1.1⟩,N21⟩
    case round=>
     obtain ⟨j,s3,es,ve,rfl,Q,EB,P,PB,G,R,TJ,QL,SZ⟩:=hrel;clear Q21 EB21 P21 PB21 G21 TF N21;generalize wr=wl at Q EB P PB G R SZ ⊢;obtain ⟨Ae,ce,rfl⟩:=Kd.aG R.1;have hjb2:=QL.1;cases j with
     | succ j=>
      have hdec:wrap64 (((j+1:Nat):Int) - 1)=(j:Int):=by rw [IntWalk.wrap64_in _ (by omega)];omega
      have hdec2:IntKind.i64.wrap (((j+1:Nat):Int) - 1)=(j:Int):=by rw [aA _ (by omega)];omega
      have hjp:(0:Int)<((j+1:Nat):Int):=by omega
      have c5:wl.cell? ⟨pb,5,none⟩=some (.slice Ae es.length ce):=cell_of PB.1 5;have Qd:=aa (Q.1.grow (Below.refl _ wl).drew);have RU:=aa (mi R.1);have RD:=aa (show Kd.R jC 99 wl.drew m0 (fun _=>True) (.slice Ae es.length ce) es from Kd.dc R.1);have PD:=aa (show Row ld 68 wl.drew (rb+1+1) n0 vp acc from Kd.dc P.1);have GD:=aa (show Row (Kd.slice 5 (Kd.int .u8)) 32 wl.drew (pb+1) m0 (.slice Aq qa.length cq) qa from Kd.dc G.1);go_wp2_with fail;refine hY (fun w'=>w'.cell? ⟨pb,5,none⟩=some (.slice Ae es.length ce)) 8 [(0,0),(1,1),(2,0),(4,0),(3,2),(5,2),(6,0),(7,2)] (by kernel_rfl) (by kernel_rfl) (fun _ _ _ _ _ h=>h) c5 ?_;iterate 1 (refine eF ?_;simp only [cS,Act.put])
      iterate 1 (refine aQ (v:=?_) rfl rfl ?_ ?_;rotate_left 1;(focus (intro w hSw;go_simp;try (with_reducible rfl)));simp only [cS,Act.put])
      iterate 2 (refine eF ?_;simp only [cS,Act.put])
      refine aT rfl ?_;go_wp2_with fail;refine (pZ Qd.1.toRs).mono ?_;rintro e w4 ⟨rfl,hs,hm⟩;have Q4:=aa (Qd.1.read hs hm);have EB4:=aa (hm.at (show wl.drew.heap[rb+1]? = _ from EB.1) (by decide));have PB4:=aa (hm.at (show wl.drew.heap[pb]? = _ from PB.1) (by decide));have P4:=aa (Row.read PD.1 hm (by decide));have G4:=aa (Row.read GD.1 hm (by decide));have R4:=aa (dF RD.1 hm (by decide));have SZ4:=aa (Nat.le_trans SZ.1 hm.size);have WW4:=aa (show wl.heap.size≤w4.heap.size from hm.size);have d5:w4.cell? ⟨pb,5,none⟩=some (.slice Ae es.length ce):=cell_of PB4.1 5;have T4:=aa (show (es++(⟨(aZ 8 s3).1,(bX 3072 (aZ 8 s3).2).1⟩::(cn qN j (bX 3072 (aZ 8 s3).2).2).1),(cn qN j (bX 3072 (aZ 8 s3).2).2).2)=ET from TJ.1);have BB1:=aa (eE 3072 (aZ 8 s3).2 Q4.1.Af);clear hs hm Q EB P PB G R TJ Qd RD PD GD c5;generalize aZ 8 s3=x at Q4 T4 BB1 ⊢;go_wp2_with fail;refine bB.mk d5 (fun hSw=>?_);clear hSw d5;refine aT rfl ?_;go_wp2_with fail;refine (Dj 3072 (by omega) Q4.1.toRs).mono ?_;rintro e w5 ⟨Ay,cy,rfl,hRy,hs,hm⟩;have Q5:=aa (Q4.1.read hs hm);have EB5:=aa (hm.at EB4.1 (by decide));have PB5:=aa (hm.at PB4.1 (by decide));have P5:=aa (Row.read P4.1 hm (by decide));have G5:=aa (Row.read G4.1 hm (by decide));have R5:=aa (dF R4.1 hm (by decide));have M5:=aa (show jC.M w5 m0 (fun k=>wl.heap.size≤k) ⟨x.1,(bX 3072 x.2).1⟩ [.int .u64 x.1, .slice Ay (bX 3072 x.2).1.length cy] from oW _ _ _ _ (Kd.cI (Kd.bZ (Kd.bS hRy) (fun k hk=>Nat.le_trans WW4.1 hk.2.1)) (Nat.le_trans SZ.1 WW4.1)));have O5:=aa (show ∀k,wl.heap.size≤k→True∧some k≠(Value.slice Ae es.length ce).ownBlock from fun k hk=>⟨trivial,fun e=>by have:=(RU.1 k e.symm).2;omega⟩);have SZ5:=aa (Nat.le_trans SZ4.1 hm.size);have d5:w5.cell? ⟨pb,5,none⟩=some (.slice Ae es.length ce):=cell_of PB5.1 5;clear hs hm hRy Q4 EB4 PB4 P4 G4 R4 SZ4;generalize bX 3072 x.2=y at Q5 M5 T4 BB1 ⊢;have T5:=aa (show ((es++[⟨x.1,y.1⟩])++(cn qN j y.2).1,(cn qN j y.2).2)=ET by rw [List.append_assoc];exact T4.1);clear T4;go_wp2_with fail;refine bB.mk d5 (fun hSw=>?_);clear hSw;iterate 1 (refine eF ?_;simp only [cS,Act.put])
      refine aT rfl ?_;go_wp2_with fail;refine bB.mk ((eT _ _ _ (ak PB5.1)).trans d5) (fun hSw=>?_);clear hSw d5;refine bC ?_;simp only [aC,List.drop_zero];go_wp2_with (first
       | ((with_reducible refine aM (b:= .append) (xs:=#[.tmp 49, .tmp 55]) rfl ?_);at_builtin;refine Kd.cG jC (w0:=w5) m0 rfl (.tmp 49) (.tmp 55) 66 99 (.agg #[.int .u64 0, .slice none 0 0]) 32 rfl Tryz.underlying66 sa rfl (by decide) (by omega) (.slice Ae es.length ce) es ⟨x.1,y.1⟩ [.int .u64 x.1, .slice Ay y.1.length cy] (fun _=>True) (fun k=>wl.heap.size≤k) rfl rfl ?aP ?aK (fun _ _=>trivial) ?aO ?aB ?aS ?aL ?_;(case aP=>exact M5.1);(case aK=>exact O5.1);(case aO=>exact R5.1);(case aB=>exact Below.refl _ _);(case aS=>exact SZ5.1);(case aL=>have:=QL.1;omega);intro v1 w6 h1 h2 h3 h4;obtain ⟨A1,k1,hv⟩:=Kd.aG h1;rw [List.length_append,List.length_singleton] at hv;subst hv;have R6:=aa h1;have Q6:=aa (Q5.1.row h3 R5.1 (by decide) (by decide) (by have:=SA.1;have:=PN.1;have:=N0.1;have:=PM.1;omega));have EB6:=aa ((h3.block _ (ak EB5.1) (fun e=>by have:=(mi R5.1 _ e.symm).1;have:=PN.1;have:=N0.1;have:=PM.1;omega)).trans EB5.1);have PB6:=aa ((h3.block _ (ak PB5.1) (fun e=>by have:=(mi R5.1 _ e.symm).1;have:=PM.1;omega)).trans PB5.1);have P6:=aa (Row.nh P5.1 h3 (n:=m0) (by have:=PN.1;have:=PM.1;omega) (fun k e=>(mi R5.1 k e).1));have G6:=aa (Row.nh G5.1 h3 (n:=m0) (Nat.le_refl _) (fun k e=>(mi R5.1 k e).1));have SZ6:=aa (Nat.le_trans SZ5.1 h3.size);clear h1 h2 h3 h4)
       | ((with_reducible refine gS 57 56 rfl ?_);refine sC 5 (.slice A1 (es.length+1) k1) (sk a.1 b_.1 (.slice Aq qa.length cq) c.1 d.1 (.slice A1 (es.length+1) k1)) PB6.1 ?_;intro w7 PB7 hG;have Q7:=aa (Q6.1.set hG.1 PB6.1 (by decide) (by decide) (by have:=SA.1;have:=PN.1;have:=N0.1;omega));have EB7:=aa ((hG.1.block _ (ak EB6.1) (fun e=>by injection e with e;have:=PN.1;have:=N0.1;omega)).trans EB6.1);have P7:=aa (Row.set P6.1 hG.1 (.inr PN.1));have G7:=aa (Row.set G6.1 hG.1 (.inl (by omega)));have R7:=aa (iO R6.1 hG.1 (by have:=PM.1;omega));have SZ7:=aa (Nat.le_trans SZ6.1 hG.1.size)))
      go_roundw
      case rel=>exact ⟨j,y.2,es++[⟨x.1,y.1⟩],_,by first|rfl|(rw [hdec]),Q7,EB7,P7,PB7,G7,R7,T5,⟨by rw [List.length_append];simp;omega⟩,SZ7⟩
      case measure=>first|(simp [intOf];done)|(rw [hdec];show (j:Int).toNat<((j+1:Nat):Int).toNat;omega)|(show (j:Int).toNat<((j+1:Nat):Int).toNat;omega)
     | zero=>
      have TE2:=aa (show (es,s3)=ET by have h:=TJ.1;rw [cn,bM] at h;exact h)
      have HP:=aa (show jI s'=(⟨a.1,b_.1,qa,c.1,d.1,es⟩,s3) by
       unfold jI;simp only [Ha,Hb_,Hc,Hd,Hk];rw [HQT.1,←TQ2.1];simp only [Hk2];rw [HET.1,←TE2.1])
      have TZ:=aa (show ((acc++[⟨a.1,b_.1,qa,c.1,d.1,es⟩])++(fe m s3).1,(fe m s3).2)=T by have h:=TE.1;rw [HP.1] at h;rw [List.append_assoc];exact h)
      obtain ⟨Ap,cp,rfl⟩:=Kd.aG P.1
      have ev:wl.cell? ⟨rb+1,0,none⟩=some (.slice Ap acc.length cp):=cell_of EB.1 0
      have hdec:wrap64 (((m+1:Nat):Int) - 1)=(m:Int):=by rw [IntWalk.wrap64_in _ (by omega)];omega
      have hdec2:IntKind.i64.wrap (((m+1:Nat):Int) - 1)=(m:Int):=by rw [aA _ (by omega)];omega
      have PA:=aa (Row.all P.1)
      have MM:=aa (show ld.M wl (rb+1+1) (fun k=>n0≤k) ⟨a.1,b_.1,qa,c.1,d.1,es⟩ [.int .u64 a.1, .int .u64 b_.1, .slice Aq qa.length cq, .int .u64 c.1, .int .u64 d.1, .slice Ae es.length ce] from oU wl (rb+1+1) (fun k=>n0≤k) ⟨a.1,b_.1,qa,c.1,d.1,es⟩ (Kd.cI (Kd.bZ (Kd.bS (Row.all G.1)) (fun k hk=>by have h:=hk.2.1;have:=PN.1;omega)) (by have:=PN.1;have:=N0.1;omega)) (Kd.cI (Kd.bZ (Kd.bS R.1) (fun k hk=>by have h:=hk.2.1;have:=PN.1;have:=PM.1;omega)) (by have:=PN.1;have:=N0.1;have:=PM.1;omega)))
      have OO:=aa (show ∀k,n0≤k→True∧some k≠(Value.slice Ap acc.length cp).ownBlock from fun k hk=>⟨trivial,fun e=>by have h1:k<n0:=P.1.1 k e.symm;omega⟩)
      have SZZ:=aa (show rb+1+1≤wl.heap.size by have:=SZ.1;have:=PN.1;have:=N0.1;have:=PM.1;omega)
      have PBu:=aa (show wl.heap[pb]? = some (.cells #[.int .u64 a.1, .int .u64 b_.1, .slice Aq qa.length cq, .int .u64 c.1, .int .u64 d.1, .slice Ae es.length ce] 68 (0,0)) from PB.1)
      clear TJ P G R PB
      go_wp2_with (first
       | ((with_reducible refine az (N:=60) rfl ?_);refine fL (t:=68) (p:= .tmp 5) rfl rfl ?haddr PBu.1 Tryz.underlying68 ?hd ?hi ?_;(case haddr=>rfl);(case hd=>rfl);(case hi=>kernel_rfl))
       | ((with_reducible refine aM (b:= .append) (xs:=#[.tmp 59, .tmp 61]) rfl ?_);at_builtin;refine Kd.cG ld (w0:=wl) (rb+1+1) rfl (.tmp 59) (.tmp 61) 26 68 (.agg #[(.int .u64 0),(.int .u64 0),(.slice none 0 0),(.int .u64 0),(.int .u64 0),(.slice none 0 0)]) 80 rfl Tryz.underlying26 rh rfl (by decide) (by omega) (.slice Ap acc.length cp) acc ⟨a.1,b_.1,qa,c.1,d.1,es⟩ [.int .u64 a.1, .int .u64 b_.1, .slice Aq qa.length cq, .int .u64 c.1, .int .u64 d.1, .slice Ae es.length ce] (fun _=>True) (fun k=>n0≤k) rfl rfl ?aP ?aK (fun _ _=>trivial) ?aO ?aB ?aS ?aL ?_;(case aP=>exact MM.1);(case aK=>exact OO.1);(case aO=>exact PA.1);(case aB=>exact Below.refl _ _);(case aS=>exact SZZ.1);(case aL=>have:=AC.1;omega);intro v1 w6 h1 h2 h3 h4;obtain ⟨A1,k1,hv⟩:=Kd.aG h1;rw [List.length_append,List.length_singleton] at hv;subst hv;have R6:=aa h1;have Q6:=aa (Q.1.row h3 PA.1 (by decide) (by decide) (by have:=SA.1;omega));have EB6:=aa ((h3.block _ (ak EB.1) (fun e=>by have:=(mi PA.1 _ e.symm).1;omega)).trans EB.1);clear h1 h2 h3 h4)
       | ((with_reducible refine gS 63 62 rfl ?_);refine sC 0 (.slice A1 (acc.length+1) k1) #[.slice A1 (acc.length+1) k1] EB6.1 ?_;intro w7 EB7 hG;have Q7:=aa (Q6.1.set hG.1 EB6.1 (by decide) (by decide) (by have:=SA.1;omega));have R7:=aa (iO R6.1 hG.1 (by omega))))
      go_roundw
      case rel=>exact ⟨m,s3,acc++[⟨a.1,b_.1,qa,c.1,d.1,es⟩],_,by first|rfl|(rw [hdec]),⟨by omega⟩,Q7,EB7,R7,TZ,⟨by have:=AC.1;rw [List.length_append];simp;omega⟩⟩
      case measure=>first|(simp [intOf];done)|(rw [hdec];show (m:Int).toNat<((m+1:Nat):Int).toNat;omega)|(show (m:Int).toNat<((m+1:Nat):Int).toNat;omega)
def eX:Nat→Int→(List Int × Int)→List eW × (List Int × Int)
 | 0,_,s=>([],s)
 | n+1,lo,s=>(⟨lo,(aZ 8 s).1,(aZ 1 (aZ 8 s).2).1⟩::(eX n (IntKind.u64.wrap ((aZ 8 s).1+1)) (aZ 1 (aZ 8 s).2).2).1,(eX n (IntKind.u64.wrap ((aZ 8 s).1+1)) (aZ 1 (aZ 8 s).2).2).2)
def oT (s:List Int × Int):iA × (List Int × Int):=(⟨(aZ 8 s).1,(bX 64 (aZ 8 s).2).1⟩,(bX 64 (aZ 8 s).2).2)
def pY (s:List Int × Int):jx × (List Int × Int):=(⟨(aZ 1 s).1,(aZ 8 (aZ 1 s).2).1,(aZ 1 (aZ 8 (aZ 1 s).2).2).1⟩,(aZ 1 (aZ 8 (aZ 1 s).2).2).2)
def mI (s:List Int × Int):Hs × (List Int × Int):=
 let a:=aZ 1 s
 let k1:=bL 8192 a.2
 let t:=eX k1.1.toNat 0 k1.2
 let k2:=bL 32768 t.2
 let p:=cn oT k2.1.toNat k2.2
 let k3:=bL 16 p.2
 let x:=cn pY k3.1.toNat k3.2
 let f:=bL 1073741824 x.2
 let g:=bL 1073741824 f.2
 let e:=pX g.2
 (⟨a.1,t.1,p.1,x.1,f.1,g.1,e.1⟩,e.2)
def lT (l:List Int):Option Hs:=
 if (16777216:Int)<l.length then none else if (l.length:Int)<4 then none else if (aZ 1 (l,0)).1=192 then if (aZ 1 (aZ 1 (l,0)).2).1=1 then
  let b:=mI (aZ 1 (aZ 1 (l,0)).2).2
  if b.2.2=0 then if b.2.1.length=4 then if (aZ 4 b.2).1=((eH (l.take (l.length - 4)):Nat):Int) then if ni b.1=true then some b.1 else none else none else none else none
 else none else none
def hC (self:Int) (v1 v2 v3:Value) (f g:Int) (v6:Value):Array Value:=#[.int .u8 self,v1,v2,v3, .int .i64 f, .int .i64 g,v6]
def hZ:Array Value:=#[.int .u8 0, .slice none 0 0, .slice none 0 0, .slice none 0 0, .int .i64 0, .int .i64 0, .slice none 0 0]
structure zw (W:World) (base:Nat) (s:Hs) (v1 v2 v3 v6:Value):Prop where
 r1:Kd.R jo 76 W base (fun _=>True) v1 s.table
 r2:Kd.R Ee 59 W base (fun _=>True) v2 s.pairs
 r3:Kd.R mg 62 W base (fun _=>True) v3 s.ses
 r6:Kd.R ld 68 W base (fun _=>True) v6 s.peers
theorem zw.mv {us:List Nat} {W W':World} {base:Nat} {s:Hs} {v1 v2 v3 v6:Value} (h:zw W base s v1 v2 v3 v6) (hm:Mv us W W') (ha:5∉us) (hb:32∉us) (h1:76∉us) (h2:59∉us) (h3:62∉us) (h6:68∉us) (h7:99∉us):zw W' base s v1 v2 v3 v6:=by
 have e1:∀q,q∈76::jo.E→q∉us:=fun q hq=>by
  have hq':q∈[76]:=hq;rw [List.mem_singleton] at hq';subst hq';exact h1
 have e2:∀q,q∈59::Ee.E→q∉us:=fun q hq=>by
  have hq':q∈[59,5]:=hq;simp only [List.mem_cons,ga,Ad] at hq';rcases hq' with rfl|rfl
  ·exact h2
  ·exact ha
 have e3:∀q,q∈62::mg.E→q∉us:=fun q hq=>by
  have hq':q∈[62]:=hq;rw [List.mem_singleton] at hq';subst hq';exact h3
 have e6:∀q,q∈68::ld.E→q∉us:=fun q hq=>by
  have hq':q∈[68,32,5,99,5]:=hq;simp only [List.mem_cons,ga,Ad] at hq';rcases hq' with rfl|rfl|rfl|rfl|rfl
  ·exact h6
  ·exact hb
  ·exact ha
  ·exact h7
  ·exact ha
 exact ⟨eV h.r1 hm e1,eV h.r2 hm e2,eV h.r3 hm e3,eV h.r6 hm e6⟩
def sX (W:World) (o:Option Hs) (e:Ending) (w':World):Prop:=Below W.heap.size W w'∧
 match o with
 | none=>e = .returned (.tuple #[.agg hZ, .int .i64 104])
 | some s=>∃v1 v2 v3 v6,e = .returned (.tuple #[.agg (hC s.self v1 v2 v3 s.free s.spare v6), .int .i64 0])∧zw w' W.heap.size s v1 v2 v3 v6
theorem sX.no {W w':World} {o:Option Hs} (ho:none=o) (hb:Below W.heap.size W w'):sX W o (.returned (.tuple #[.agg hZ, .int .i64 104])) w':=by
 subst ho;exact ⟨hb,rfl⟩
theorem sX.ok {W w':World} {o:Option Hs} {s:Hs} {v1 v2 v3 v6:Value} (ho:some s=o) (hb:Below W.heap.size W w') (hm:zw w' W.heap.size s v1 v2 v3 v6):sX W o (.returned (.tuple #[.agg (hC s.self v1 v2 v3 s.free s.spare v6), .int .i64 0])) w':=by
 subst ho;exact ⟨hb,v1,v2,v3,v6,rfl,hm⟩
end Go.Proofs.YtpekmdpbfjdjkaaGreat.dO
namespace Go.Proofs.YtpekmdpbfjdjkaaGreat.dO
open Go Go.RowKit ag.ax aD cL plain
theorem mN {s:List Int × Int} (h:aq s.1):0≤(aZ 8 s).1∧(aZ 8 s).1≤18446744073709551615:=by
 have:=gC (n:=8) h;omega
theorem jP {α:Type} (f:(List Int × Int)→α × (List Int × Int)) (P:α→Prop) (hf:∀s,aq s.1→P (f s).1∧aq (f s).2.1):∀(n:Nat) (s:List Int × Int),aq s.1→(∀x∈(cn f n s).1,P x)∧aq (cn f n s).2.1∧(cn f n s).1.length=n:=by
 intro n;induction n with
 | zero=>
  intro s h;exact ⟨(fun x hx=>by cases hx),h,rfl⟩
 | succ n ih=>
  intro s h;obtain ⟨h1,h2⟩:=hf s h;obtain ⟨i1,i2,i3⟩:=ih (f s).2 h2;refine ⟨fun x hx=>?_,i2,by rw [cn,List.length_cons,i3]⟩;rw [cn] at hx;rcases List.mem_cons.1 hx with rfl|hx
  ·exact h1
  ·exact i1 x hx
theorem rF:∀(n:Nat) (lo:Int) (s:List Int × Int),0≤lo∧lo≤18446744073709551615→aq s.1→xJ (eX n lo s).1∧aq (eX n lo s).2.1∧(eX n lo s).1.length=n:=by
 intro n;induction n with
 | zero=>
  intro lo s _ h;exact ⟨(fun x hx=>by cases hx),h,rfl⟩
 | succ n ih=>
  intro lo s hl h;have h1:=mN h;have h2:=cw (n:=8) h;have h3:=nN h2;have h4:=cw (n:=1) h2;have hw:0≤IntKind.u64.wrap ((aZ 8 s).1+1)∧IntKind.u64.wrap ((aZ 8 s).1+1)≤18446744073709551615:=by
   simp only [IntKind.wrap,IntKind.signed,IntKind.bits];constructor
   ·exact Int.emod_nonneg _ (by decide)
   ·have:=Int.emod_lt_of_pos ((aZ 8 s).1+1) (show (0:Int)<2 ^ 64 by decide);simp at this ⊢;omega
  obtain ⟨i1,i2,i3⟩:=ih (IntKind.u64.wrap ((aZ 8 s).1+1)) (aZ 1 (aZ 8 s).2).2 hw h4;refine ⟨fun x hx=>?_,i2,by rw [eX,List.length_cons,i3]⟩;rw [eX] at hx;rcases List.mem_cons.1 hx with rfl|hx
  ·exact ⟨hl,h1,h3⟩
  ·exact i1 x hx
theorem qY (s:List Int × Int) (h:aq s.1):qQ (jI s).1∧aq (jI s).2.1:=by
 have a1:=mN h;have b1:=cw (n:=8) h;have a2:=mN b1;have b2:=cw (n:=8) b1;have a3:=mN b2;have b3:=cw (n:=8) b2;have a4:=mN b3;have b4:=cw (n:=8) b3;have c1:=dJ 16 _ b4;obtain ⟨q1,q2,q3⟩:=jP (bX 3072) (fun l=>aq l∧l.length≤3072) (fun s h=>by have:=eE 3072 s h;exact ⟨⟨this.1,this.2.2⟩,this.2.1⟩) (bL 16 (aZ 8 (aZ 8 (aZ 8 (aZ 8 s).2).2).2).2).1.toNat _ c1.2.2;have c2:=dJ 16 _ q2;obtain ⟨e1,e2,e3⟩:=jP qN (fun f=>(0≤f.f0∧f.f0≤18446744073709551615)∧aq f.f1∧f.f1.length≤3072) (fun s h=>by
  have h1:=mN h;have h2:=eE 3072 _ (cw (n:=8) h);exact ⟨⟨h1,h2.1,h2.2.2⟩,h2.2.1⟩) (bL 16 (cn (bX 3072) (bL 16 (aZ 8 (aZ 8 (aZ 8 (aZ 8 s).2).2).2).2).1.toNat (bL 16 (aZ 8 (aZ 8 (aZ 8 (aZ 8 s).2).2).2).2).2).2).1.toNat _ c2.2.2
 refine ⟨{ m0:=a3.1,m1:=a3.2,l2:=?_,l5:=?_,b2:=fun l hl=>?_,b5:=fun f hf=>?_,m0':=a1,m1':=a2,m4':=a4,y2:=fun l hl=>(q1 l hl).1,y5:=fun f hf=>⟨(e1 f hf).1,(e1 f hf).2.1⟩ },e2⟩
 ·show (cn (bX 3072) _ _).1.length≤_;rw [q3];have:=c1.2.1;omega
 ·show (cn qN _ _).1.length≤_;rw [e3];have:=c2.2.1;omega
 ·have:=(q1 l hl).2;omega
 ·have:=(e1 f hf).2.2;omega
theorem qC:∀(n:Nat) (s:List Int × Int),aq s.1→(∀x∈(fe n s).1,qQ x)∧aq (fe n s).2.1∧(fe n s).1.length≤n:=by
 intro n;induction n with
 | zero=>
  intro s h;exact ⟨(fun x hx=>by cases hx),h,Nat.le_refl _⟩
 | succ n ih=>
  intro s h;rw [fe];split
  ·obtain ⟨h1,h2⟩:=qY s h;obtain ⟨i1,i2,i3⟩:=ih (jI s).2 h2;refine ⟨fun x hx=>?_,i2,by simp only [List.length_cons];omega⟩;rcases List.mem_cons.1 hx with rfl|hx
   ·exact h1
   ·exact i1 x hx
  ·exact ⟨(fun x hx=>by cases hx),h,by simp⟩
theorem rR (s:List Int × Int) (h:aq s.1):oO (mI s).1∧aq (mI s).2.1:=by
 have a1:=nN h;have a2:=cw (n:=1) h;have c1:=dJ 8192 _ a2;obtain ⟨t1,t2,t3⟩:=rF (bL 8192 (aZ 1 s).2).1.toNat 0 _ (by omega) c1.2.2;have c2:=dJ 32768 _ t2;obtain ⟨p1,p2,p3⟩:=jP oT (fun x=>(0≤x.f0∧x.f0≤18446744073709551615)∧x.f1.length≤100000000∧aq x.f1) (fun s h=>by
  have h1:=mN h;have h2:=eE 64 _ (cw (n:=8) h);exact ⟨⟨h1,Nat.le_trans h2.2.2 (by omega),h2.1⟩,h2.2.1⟩) (bL 32768 (eX (bL 8192 (aZ 1 s).2).1.toNat 0 (bL 8192 (aZ 1 s).2).2).2).1.toNat _ c2.2.2
 have c3:=dJ 16 _ p2;obtain ⟨x1,x2,x3⟩:=jP pY (fun x=>(0≤x.f0∧x.f0≤255)∧(0≤x.f1∧x.f1≤18446744073709551615)∧0≤x.f2∧x.f2≤255) (fun s h=>by
  have h1:=nN h;have b1:=cw (n:=1) h;have h2:=mN b1;have b2:=cw (n:=8) b1;exact ⟨⟨h1,h2,nN b2⟩,cw (n:=1) b2⟩) (bL 16 (cn oT (bL 32768 (eX (bL 8192 (aZ 1 s).2).1.toNat 0 (bL 8192 (aZ 1 s).2).2).2).1.toNat (bL 32768 (eX (bL 8192 (aZ 1 s).2).1.toNat 0 (bL 8192 (aZ 1 s).2).2).2).2).2).1.toNat _ c3.2.2
 have c4:=dJ 1073741824 _ x2;have c5:=dJ 1073741824 _ c4.2.2;have n1:=nN c5.2.2;have n2:=cw (n:=1) c5.2.2;obtain ⟨e1,e2,e3⟩:=qC (aZ 1 (bL 1073741824 (bL 1073741824 (cn pY (bL 16 (cn oT (bL 32768 (eX (bL 8192 (aZ 1 s).2).1.toNat 0 (bL 8192 (aZ 1 s).2).2).2).1.toNat (bL 32768 (eX (bL 8192 (aZ 1 s).2).1.toNat 0 (bL 8192 (aZ 1 s).2).2).2).2).2).1.toNat (bL 16 (cn oT (bL 32768 (eX (bL 8192 (aZ 1 s).2).1.toNat 0 (bL 8192 (aZ 1 s).2).2).2).1.toNat (bL 32768 (eX (bL 8192 (aZ 1 s).2).1.toNat 0 (bL 8192 (aZ 1 s).2).2).2).2).2).2).2).2).2).1.toNat _ n2;refine ⟨{ b0:=a1,b1:=⟨?_,t1⟩,b2:=⟨?_,p1⟩,b3:=⟨?_,x1⟩,b4:=?_,b5:=?_,b6:=⟨?_,e1⟩ },e2⟩
 ·show (eX _ _ _).1.length≤_;rw [t3];have:=c1.2.1;omega
 ·show (cn oT _ _).1.length≤_;rw [p3];have:=c2.2.1;omega
 ·show (cn pY _ _).1.length≤_;rw [x3];have:=c3.2.1;omega
 ·show _≤(bL 1073741824 _).1∧(bL 1073741824 _).1≤_;have:=c4.1;have:=c4.2.1;omega
 ·show _≤(bL 1073741824 _).1∧(bL 1073741824 _).1≤_;have:=c5.1;have:=c5.2.1;omega
 ·show (fe _ _).1.length≤_;omega
end Go.Proofs.YtpekmdpbfjdjkaaGreat.dO