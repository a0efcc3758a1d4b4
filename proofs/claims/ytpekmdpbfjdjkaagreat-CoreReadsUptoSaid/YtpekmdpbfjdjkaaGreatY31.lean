/- Part 31 of the proof that reading bytes answers as the document does. No condition. -/
import Derived.Test.YtpekmdpbfjdjkaaGreatY30
set_option maxHeartbeats 16000000
set_option maxRecDepth 100000
set_option linter.all false
namespace Go.Proofs.YtpekmdpbfjdjkaaGreat.dO
open Go Go.RowKit ag.ax ag.aV ag.aU aD fr iK cL plain fE
theorem Gu {a:Int} (h:0≤a∧a≤255):IntKind.u8.wrap a=a:=by
 simp [IntKind.wrap,IntKind.signed,IntKind.bits];omega
theorem Fk {n i m:Nat} {e:Int} (h:¬(i<n∧e=0)):(decide (i<n)&&(e == 0))=false:=by
 rw [Bool.and_eq_false_iff];rcases dg i n with k|k
 ·exact .inr (by simpa using fun q=>h ⟨k,q⟩)
 ·exact .inl (decide_eq_false (by omega))
theorem Fo {n i:Nat} {e:Int} (h:i<n∧e=0):(decide (i<n)&&(e == 0))=true:=by rw [decide_eq_true h.1,h.2];rfl
theorem EP {α:Type} {f:(List Int × Int)→α × (List Int × Int)} {n i m:Nat} {s:List Int × Int} {zs:List α} {Q:List α × (List Int × Int)} (hm:i+m=n) (h:¬(i<n∧s.2=0)) (hj:(zs++(mu f m s).1,(mu f m s).2)=Q):(zs,s)=Q:=by
 cases m with
 | zero=>rw [mu,bM] at hj;exact hj
 | succ m=>rw [mu,if_pos (fun k=>h ⟨by omega,k⟩),bM] at hj;exact hj
theorem FU {α:Type} {f:(List Int × Int)→α × (List Int × Int)} {m:Nat} {s:List Int × Int} {zs:List α} {Q:List α × (List Int × Int)} (h:s.2=0) (hj:(zs++(mu f (m+1) s).1,(mu f (m+1) s).2)=Q):(zs++(f s).1::(mu f m (f s).2).1,(mu f m (f s).2).2)=Q:=by
 rw [mu,if_neg (fun k=>k h)] at hj;exact hj
theorem FI {n i m:Nat} {lo:Int} {s:List Int × Int} {zs:List eW} {Q:List eW × (List Int × Int)} (hm:i+m=n) (h:¬(i<n∧s.2=0)) (hj:(zs++(DT m lo s).1,(DT m lo s).2)=Q):(zs,s)=Q:=by
 cases m with
 | zero=>rw [DT,bM] at hj;exact hj
 | succ m=>rw [DT,if_pos (fun k=>h ⟨by omega,k⟩),bM] at hj;exact hj
theorem Ew (s:Hs) (hb:oO s) (hw:ni s=true):aq (gT (dV s)):=by
 have h1:=kG s hb (by have:=(lA s hw).peers.1;omega);unfold gT;exact cR h1 (lY 4 _)
theorem Fq (a b:List Int) (ha:aq a) (hb:aq b):((strOfNums a).toList == (strOfNums b).toList)=decide (a=b):=by
 have h:=ref.yG a b ha hb;rw [dk.f] at h;exact ar h
theorem zw.Gw {W W':World} {base:Nat} {s:Hs} {v1 v2 v3 v6:Value} (h:zw W base s v1 v2 v3 v6) (hb:Below W.heap.size W W'):zw W' base s v1 v2 v3 v6:=⟨Kd.bR h.r1 hb,Kd.bR h.r2 hb,Kd.bR h.r3 hb,Kd.bR h.r6 hb⟩
theorem zw.lower {W:World} {base base':Nat} {s:Hs} {v1 v2 v3 v6:Value} (h:zw W base s v1 v2 v3 v6) (hb:base'≤base):zw W base' s v1 v2 v3 v6:=⟨Kd.cI h.r1 hb,Kd.cI h.r2 hb,Kd.cI h.r3 hb,Kd.cI h.r6 hb⟩
theorem Gh (l:List Int) (A:Option Addr) (c:Nat) (W:World) (hl:Kd.C (Kd.int .u8) W A l.length l) (hc:l.length≤c) (hL:l.length≤200000000) (hy:aq l) :
 Calls Tryz.prog 16 #[.slice A l.length c] W (sX W (ED l)):=by
 have hu30:=Tryz.underlying30;have HL:=aa hl;have HC:=aa hc;have HY:=aa hy;have X0:=((ah (Below.refl _ (W.alloc (.cells #[.int .u8 0, .slice none 0 0, .slice none 0 0, .slice none 0 0, .int .i64 0, .int .i64 0, .slice none 0 0] 30))) (.cells #[.slice A l.length c, .int .i64 0, .bool false] 103)).block W.heap.size (ak (aJ W (.cells #[.int .u8 0, .slice none 0 0, .slice none 0 0, .slice none 0 0, .int .i64 0, .int .i64 0, .slice none 0 0] 30)))).trans (aJ W (.cells #[.int .u8 0, .slice none 0 0, .slice none 0 0, .slice none 0 0, .int .i64 0, .int .i64 0, .slice none 0 0] 30));have Y0:=aJ (W.alloc (.cells #[.int .u8 0, .slice none 0 0, .slice none 0 0, .slice none 0 0, .int .i64 0, .int .i64 0, .slice none 0 0] 30)) (.cells #[.slice A l.length c, .int .i64 0, .bool false] 103);rw [show (W.alloc (.cells #[.int .u8 0, .slice none 0 0, .slice none 0 0, .slice none 0 0, .int .i64 0, .int .i64 0, .slice none 0 0] 30)).heap.size=W.heap.size+1 by simp] at Y0;have X1:=aa (And.intro (ah (ah (Below.refl _ W) (.cells #[.int .u8 0, .slice none 0 0, .slice none 0 0, .slice none 0 0, .int .i64 0, .int .i64 0, .slice none 0 0] 30)) (.cells #[.slice A l.length c, .int .i64 0, .bool false] 103)) (And.intro X0 Y0));generalize hO:ED l=o;have HO:=aa hO;clear hO hl hc hy X0 Y0;go_in;go_upto_region 2 with (fail);generalize World.alloc (World.alloc W _) _=w1 at X1 ⊢;have Q1:=aa (show Cq W A c l w1 (W.heap.size+1) (l,0) from ⟨⟨0,X1.1.2.2,aI _,rfl⟩,X1.1.1,Nat.le_succ _,HL.1,HC.1,hL,HY.1⟩);have T1:=aa (show w1.heap[W.heap.size]? = some (.cells hZ 30 (0,0)) from X1.1.2.1);clear X1;generalize W.heap.size+1=b at Q1 ⊢;go_wp2_with fail;refine (Ez 2 (by omega) Q1.1).mono ?_;rintro e w2 ⟨⟨Ax,cx,rfl,_,_⟩,hq,hm,_⟩;have Q2:=aa hq;have T2:=aa (hm.at T1.1 (by decide));clear hq hm Q1 T1;have hP:=HO.1;unfold ED at hP;generalize (tF 2 (l,0)).2=s0 at Q2 hP;generalize hbd:El s0=BD at hP;replace HO:=aa hP;have HP:=aa hbd;have HBD:=aa (show oO BD.1 by rw [←hbd];exact (En s0 Q2.1.Af).1);unfold El at HP;simp only at HP;clear hP hbd;go_upto_region 4 with ((with_reducible refine gS 5 26 rfl ?_);refine sB (Eo 0 (.slice none 0 0) (.slice none 0 0) (.slice none 0 0) (0) (0) (.slice none 0 0)) (aJ _ _) ?_;intro wz hW hG;have bl:=Fe (ah (Below.refl w2.heap.size w2) _) hG.1 (Nat.le_refl _) (ah (Below.refl _ _) _).size;have I3:=aa (show RI W A c l b w2.heap.size W.heap.size wz.heap.size wz s0 (Eo 0 (.slice none 0 0) (.slice none 0 0) (.slice none 0 0) (0) (0) (.slice none 0 0)) (.slice none 0 0) (.slice none 0 0) (.slice none 0 0) [] [] [] from ⟨Q2.1.move (ts:=[]) (Mv.cH bl) (bl.mono Q2.1.bel.size) (by simp),hW.1,(bl.block _ (ak T2.1)).trans T2.1,Kd.cY _ _ _ _ _,Kd.cY _ _ _ _ _,Kd.cY _ _ _ _ _,Nat.le_trans Q2.1.bel.size bl.size,Nat.le_refl _,ak hW.1,Q2.1.bel.size,Nat.ne_of_lt (ak T2.1),Nat.lt_of_lt_of_le (ak T2.1) bl.size,Nat.le_refl _⟩);clear hW hG bl Q2 T2;generalize w2.heap.size=sb at I3 ⊢;generalize hB:wz.heap.size=B at I3;clear hB;generalize wz=w3 at I3 ⊢;generalize W.heap.size=tb at I3 ⊢);go_wp2_with fail;have hk:=nN I3.1.cu.Af;refine (Eh 1 (by omega) I3.1.cu).mono ?_;rintro e w4 ⟨rfl,hq,hm,hb⟩;have I4:=aa (I3.1.call hq hm);clear hq hm hb I3;generalize aZ 1 s0=q at I4 HP hk ⊢;obtain ⟨a0,za0⟩:=q;try simp only at HP hk
 replace I4:=aa (show RI W A c l b sb tb B w4 za0 _ _ _ _ _ _ _ from I4.1);have Ba0:=aa (show 0≤a0∧a0≤255 from hk);clear hk;have hwa:=Gu Ba0.1;go_upto_region 6 with ((with_reducible refine gS 31 30 rfl ?_);refine sC 0 (.int .u8 a0) (Eo a0 (.slice none 0 0) (.slice none 0 0) (.slice none 0 0) (0) (0) (.slice none 0 0)) I4.1.sblk ?_;intro wz hW hG;have I5:=aa (I4.1.sets hG.1 hW.1);clear hW hG I4;generalize wz=w5 at I5 ⊢);clear hwa;go_wp2_with fail;have hk:=Ac 8192 (by omega) _ I5.1.cu.Af;refine (Ea 8192 (by omega) (by omega) I5.1.cu).mono ?_;rintro e w6 ⟨rfl,hq,hm,hb⟩;have I6:=aa (I5.1.call hq hm);clear hq hm hb I5;generalize vw 8192 za0=q at I6 HP hk ⊢;obtain ⟨y,zn1⟩:=q;obtain ⟨n1,rfl⟩:=Int.eq_ofNat_of_zero_le hk.1;have Ln1:=aa (show n1≤8192 by have:=hk.2.1;simp only at this;omega);simp only [Int.toNat_natCast] at HP;replace I6:=aa (show RI W A c l b sb tb B w6 zn1 _ _ _ _ _ _ _ from I6.1);clear hk;go_wp2_with fail;generalize hQ:DT n1 0 zn1=Q1 at HP;have J0:=aa (show (([]:List eW)++(DT n1 0 zn1).1,(DT n1 0 zn1).2)=Q1 from hQ);clear hQ;go_loopw [7,9] (fun v7 v9 wr=>∃(i m:Nat) (lo:Int) (s2:List Int × Int) (ts:List eW) (A1:Option Addr) (c1:Nat),v9 = .int .i64 i∧v7 = .int .u64 lo∧i+m=n1∧af (ts.length≤i)∧af (RI W A c l b sb tb B wr s2 (Eo a0 (.slice A1 ts.length c1) (.slice none 0 0) (.slice none 0 0) (0) (0) (.slice none 0 0)) (.slice A1 ts.length c1) (.slice none 0 0) (.slice none 0 0) ts [] [])∧af ((ts++(DT m lo s2).1,(DT m lo s2).2)=Q1)) (fun _ v _=>n1 - (intOf v).toNat)
 case atStart=>exact ⟨0,n1,0,zn1,[],none,0,rfl,rfl,by omega,⟨by simp⟩,I6,J0⟩
 case round=>
  obtain ⟨i,m,lo,s2,ts,A1,c1,rfl,rfl,him,LT,I7,TJ⟩:=hrel;clear I6 J0;have hN:=Ln1.1;go_upto_region 9 with (fail);go_cut [43] (fun s43 wx=>s43 = .bool (decide (i<n1)&&(s2.2 == 0))∧wx=wr)
  case first=>
   have c2:=I7.1.cu.c2;by_cases hlt:i<n1
   ·have hl:((i:Int)<(n1:Int))=True:=by simp;omega
    by_cases he:s2.2=0
    ·have heb:(s2.2 != 0)=false:=by rw [he];rfl
     rw [heb] at c2;go_wp2_with fail;go_meet;exact ⟨by rw [decide_eq_true hlt,he];rfl,rfl⟩
    ·have heb:(s2.2 != 0)=true:=by simpa using he
     rw [heb] at c2;go_wp2_with fail;go_meet;exact ⟨by rw [show (s2.2 == 0)=false from by simpa using he,DW],rfl⟩
   ·have hl:((i:Int)<(n1:Int))=False:=by simp;omega
    go_wp2_with fail;go_meet;exact ⟨by rw [decide_eq_false hlt];rfl,rfl⟩
  obtain ⟨rfl,rfl⟩:=hcut;by_cases hgo:i<n1∧s2.2=0
  ·obtain ⟨m,rfl⟩:∃k,m=k+1:=⟨m - 1,by omega⟩;have TE:=aa (show (ts++⟨lo,(aZ 8 s2).1,(aZ 1 (aZ 8 s2).2).1⟩::(DT m (IntKind.u64.wrap ((aZ 8 s2).1+1)) (aZ 1 (aZ 8 s2).2).2).1,(DT m (IntKind.u64.wrap ((aZ 8 s2).1+1)) (aZ 1 (aZ 8 s2).2).2).2)=Q1 by have h:=TJ.1;rw [DT,if_neg (fun k=>k hgo.2)] at h;exact h);rw [Fo hgo];clear TJ hgo;go_wp2_with fail;have hk:=mN I7.1.cu.Af;refine (Eh 8 (by omega) I7.1.cu).mono ?_;rintro e w0 ⟨rfl,hq,hm,hb⟩;have M0:=aa (I7.1.call hq hm);clear hq hm hb I7;generalize aZ 8 s2=q at M0 TE hk ⊢;obtain ⟨hi,zhi⟩:=q;try simp only at TE hk
   replace M0:=aa (show RI W A c l b sb tb B w0 zhi _ _ _ _ _ _ _ from M0.1);have Bhi:=aa (show 0≤hi∧hi≤18446744073709551615 from hk);clear hk;go_wp2_with fail;have hk:=nN M0.1.cu.Af;refine (Eh 1 (by omega) M0.1.cu).mono ?_;rintro e w2 ⟨rfl,hq,hm,hb⟩;have M2:=aa (M0.1.call hq hm);clear hq hm hb M0;generalize aZ 1 zhi=q at M2 TE hk ⊢;obtain ⟨y,zy⟩:=q;try simp only at TE hk
   replace M2:=aa (show RI W A c l b sb tb B w2 zy _ _ _ _ _ _ _ from M2.1);have By:=aa (show 0≤y∧y≤255 from hk);clear hk;have hwy:=Gu By.1;go_upto_region 13 with (fail);have y1:w2.cell? ⟨sb,1,none⟩=some (.slice A1 ts.length c1):=cell_of M2.1.sblk 1;go_upto_region 14 with (first|((with_reducible refine aM (b:= .append) (xs:=#[.tmp 51, .tmp 57]) rfl ?_);refine Kd.cG jo B rfl (.tmp 51) (.tmp 57) 23 76 (.agg #[.int .u64 0, .int .u64 0, .int .u8 0]) 24 rfl Tryz.underlying23 nF rfl (by decide) (by omega) (.slice A1 ts.length c1) ts ⟨lo,hi,y⟩ [.int .u64 lo, .int .u64 hi, .int .u8 y] (fun _=>True) (fun _=>False) rfl rfl (nk _ _ _ ⟨lo,hi,y⟩) (fun _ h=>h.elim) (fun _ _=>trivial) M2.1.r1 (Below.refl _ _) M2.1.hBw (by have:=LT.1;omega) ?_;intro vz w6 hR _ hG _;obtain ⟨Az,cz,hv⟩:=Kd.aG hR;rw [List.length_append,List.length_singleton] at hv;subst hv;have M3:=aa (M2.1.Gy hG hR);clear hR hG M2)|((with_reducible refine gS 59 58 rfl ?_);refine sC 1 (.slice Az (ts.length+1) cz) (Eo a0 (.slice Az (ts.length+1) cz) (.slice none 0 0) (.slice none 0 0) (0) (0) (.slice none 0 0)) M3.1.sblk ?_;intro wz hW hG;have M4:=aa (M3.1.sets hG.1 hW.1);clear hW hG M3;generalize wz=w4 at M4 ⊢));go_wp2_with fail;go_roundw
   case rel=>exact ⟨i+1,m,_,zy,ts++[⟨lo,hi,y⟩],Az,cz,by go_num,rfl,by omega,⟨by have:=LT.1;rw [List.length_append,List.length_singleton];omega⟩,⟨by have h:=M4.1;rw [List.length_append,List.length_singleton];exact h⟩,⟨by rw [List.append_assoc];exact TE.1⟩⟩
   case measure=>
    show n1 - ((i:Int)+1).toNat<n1 - (i:Int).toNat;omega
  have TE:=aa (FI him hgo TJ.1);rw [Fk (m:=m) hgo];have hQ:=TE.1;subst hQ;simp only at HP;clear TJ hgo TE;go_wp2_with fail;have hk:=Ac 32768 (by omega) _ I7.1.cu.Af;refine (Ea 32768 (by omega) (by omega) I7.1.cu).mono ?_;rintro e w8 ⟨rfl,hq,hm,hb⟩;have I8:=aa (I7.1.call hq hm);clear hq hm hb I7;generalize vw 32768 s2=q at I8 HP hk ⊢;obtain ⟨y,zn2⟩:=q;obtain ⟨n2,rfl⟩:=Int.eq_ofNat_of_zero_le hk.1;have Ln2:=aa (show n2≤32768 by have:=hk.2.1;simp only at this;omega);simp only [Int.toNat_natCast] at HP;replace I8:=aa (show RI W A c l b sb tb B w8 zn2 _ _ _ _ _ _ _ from I8.1);clear hk;go_wp2_with fail;generalize hQ:mu Fb n2 zn2=Q2 at HP;have J0:=aa (show (([]:List iA)++(mu Fb n2 zn2).1,(mu Fb n2 zn2).2)=Q2 from hQ);clear hQ;go_loopw [11] (fun v11 wr=>∃(i m:Nat) (s2:List Int × Int) (ps:List iA) (A2:Option Addr) (c2':Nat),v11 = .int .i64 i∧i+m=n2∧af (ps.length≤i)∧af (RI W A c l b sb tb B wr s2 (Eo a0 (.slice A1 ts.length c1) (.slice A2 ps.length c2') (.slice none 0 0) (0) (0) (.slice none 0 0)) (.slice A1 ts.length c1) (.slice A2 ps.length c2') (.slice none 0 0) ts ps [])∧af ((ps++(mu Fb m s2).1,(mu Fb m s2).2)=Q2)) (fun v _=>n2 - (intOf v).toNat)
  case atStart=>exact ⟨0,n2,zn2,[],none,0,rfl,by omega,⟨by simp⟩,I8,J0⟩
  case round=>
   obtain ⟨i2,m2,s3,ps,A2,c2',rfl,him2,LP,I9,TJ⟩:=hrel;clear I8 J0;have hN2:=Ln2.1;go_upto_region 17 with (fail);go_cut [73] (fun s73 wx=>s73 = .bool (decide (i2<n2)&&(s3.2 == 0))∧wx=wr)
   case first=>
    have c2:=I9.1.cu.c2;by_cases hlt:i2<n2
    ·have hl:((i2:Int)<(n2:Int))=True:=by simp;omega
     by_cases he:s3.2=0
     ·have heb:(s3.2 != 0)=false:=by rw [he];rfl
      rw [heb] at c2;go_wp2_with fail;go_meet;exact ⟨by rw [decide_eq_true hlt,he];rfl,rfl⟩
     ·have heb:(s3.2 != 0)=true:=by simpa using he
      rw [heb] at c2;go_wp2_with fail;go_meet;exact ⟨by rw [show (s3.2 == 0)=false from by simpa using he,DW],rfl⟩
    ·have hl:((i2:Int)<(n2:Int))=False:=by simp;omega
     go_wp2_with fail;go_meet;exact ⟨by rw [decide_eq_false hlt];rfl,rfl⟩
   obtain ⟨rfl,rfl⟩:=hcut;by_cases hgo:i2<n2∧s3.2=0
   ·obtain ⟨m2,rfl⟩:∃k,m2=k+1:=⟨m2 - 1,by omega⟩;have TE:=aa (FU hgo.2 TJ.1);rw [Fo hgo];clear TJ hgo;unfold Fb DV at TE;go_wp2_with fail;have hk:=mN I9.1.cu.Af;refine (Eh 8 (by omega) I9.1.cu).mono ?_;rintro e w1 ⟨rfl,hq,hm,hb⟩;have M1:=aa (I9.1.call hq hm);clear hq hm hb I9;generalize aZ 8 s3=q at M1 TE hk ⊢;obtain ⟨ky,zky⟩:=q;try simp only at TE hk
    replace M1:=aa (show RI W A c l b sb tb B w1 zky _ _ _ _ _ _ _ from M1.1);have Bky:=aa (show 0≤ky∧ky≤18446744073709551615 from hk);clear hk;go_wp2_with fail;have hk:=Ac 64 (by omega) _ M1.1.cu.Af;refine (Ea 64 (by omega) (by omega) M1.1.cu).mono ?_;rintro e w2 ⟨rfl,hq,hm,hb⟩;have M2:=aa (M1.1.call hq hm);clear hq hm hb M1;generalize vw 64 zky=q at M2 TE hk ⊢;obtain ⟨y,zkn⟩:=q;obtain ⟨kn,rfl⟩:=Int.eq_ofNat_of_zero_le hk.1;have Lkn:=aa (show kn≤64 by have:=hk.2.1;simp only at this;omega);simp only [Int.toNat_natCast] at TE;replace M2:=aa (show RI W A c l b sb tb B w2 zkn _ _ _ _ _ _ _ from M2.1);clear hk;go_wp2_with fail;refine (Ez kn (by have:=Lkn.1;omega) M2.1.cu).mono ?_;rintro e wb ⟨⟨Ax,cx,rfl,hl1,hC1⟩,hq,hm,_⟩;have M3:=aa (M2.1.call hq hm);generalize tF kn zkn=q at M3 TE hl1 hC1 ⊢;obtain ⟨bs,zbs⟩:=q;have LX:=aa (And.intro hl1 hC1);replace M3:=aa (show RI W A c l b sb tb B wb zbs _ _ _ _ _ _ _ from M3.1);simp only at LX TE;clear hq hm M2 hl1 hC1;go_upto_region 22 with (fail);have y2:wb.cell? ⟨sb,2,none⟩=some (.slice A2 ps.length c2'):=cell_of M3.1.sblk 2;go_wp2_with (first|((with_reducible refine aM (b:= .append) (xs:=#[.tmp 84, .tmp 88]) rfl ?_);refine Kd.cG (Gl W) B rfl (.tmp 84) (.tmp 88) 24 59 (.agg #[.int .u64 0, .slice none 0 0]) 32 rfl Tryz.underlying24 lE rfl Nat.two_pos (by omega) (.slice A2 ps.length c2') ps ⟨ky,bs⟩ [.int .u64 ky, .slice Ax bs.length cx] (fun _=>True) (fun _=>False) rfl rfl (Gf ⟨ky,bs⟩ LX.1.1 LX.1.2) (fun _ h=>h.elim) (fun _ _=>trivial) M3.1.r2 (Below.refl _ _) M3.1.hBw (by have:=LP.1;omega) ?_;intro vz w6 hR _ hG _;obtain ⟨Az,cz,hv⟩:=Kd.aG hR;rw [List.length_append,List.length_singleton] at hv;subst hv;have M4:=aa (M3.1.FZ hG hR);clear hR hG M3)|((with_reducible refine gS 90 89 rfl ?_);refine sC 2 (.slice Az (ps.length+1) cz) (Eo a0 (.slice A1 ts.length c1) (.slice Az (ps.length+1) cz) (.slice none 0 0) (0) (0) (.slice none 0 0)) M4.1.sblk ?_;intro wz hW hG;have M5:=aa (M4.1.sets hG.1 hW.1);clear hW hG M4;generalize wz=w5 at M5 ⊢));go_roundw
    case rel=>exact ⟨i2+1,m2,zbs,ps++[⟨ky,bs⟩],Az,cz,by go_num,by omega,⟨by have:=LP.1;rw [List.length_append,List.length_singleton];omega⟩,⟨by have h:=M5.1;rw [List.length_append,List.length_singleton];exact h⟩,⟨by rw [List.append_assoc];exact TE.1⟩⟩
    case measure=>
     show n2 - ((i2:Int)+1).toNat<n2 - (i2:Int).toNat;omega
   have TE:=aa (EP him2 hgo TJ.1);rw [Fk (m:=m2) hgo];have hQ:=TE.1;subst hQ;simp only at HP;clear TJ hgo TE;go_wp2_with fail;have hk:=Ac 16 (by omega) _ I9.1.cu.Af;refine (Ea 16 (by omega) (by omega) I9.1.cu).mono ?_;rintro e w10 ⟨rfl,hq,hm,hb⟩;have I10:=aa (I9.1.call hq hm);clear hq hm hb I9;generalize vw 16 s3=q at I10 HP hk ⊢;obtain ⟨y,zn3⟩:=q;obtain ⟨n3,rfl⟩:=Int.eq_ofNat_of_zero_le hk.1;have Ln3:=aa (show n3≤16 by have:=hk.2.1;simp only at this;omega);simp only [Int.toNat_natCast] at HP;replace I10:=aa (show RI W A c l b sb tb B w10 zn3 _ _ _ _ _ _ _ from I10.1);clear hk;go_wp2_with fail;generalize hQ:mu pY n3 zn3=Q3 at HP;have J0:=aa (show (([]:List jx)++(mu pY n3 zn3).1,(mu pY n3 zn3).2)=Q3 from hQ);clear hQ;go_loopw [15] (fun v15 wr=>∃(i m:Nat) (s2:List Int × Int) (xs:List jx) (A3:Option Addr) (c3:Nat),v15 = .int .i64 i∧i+m=n3∧af (xs.length≤i)∧af (RI W A c l b sb tb B wr s2 (Eo a0 (.slice A1 ts.length c1) (.slice A2 ps.length c2') (.slice A3 xs.length c3) (0) (0) (.slice none 0 0)) (.slice A1 ts.length c1) (.slice A2 ps.length c2') (.slice A3 xs.length c3) ts ps xs)∧af ((xs++(mu pY m s2).1,(mu pY m s2).2)=Q3)) (fun v _=>n3 - (intOf v).toNat)
   case atStart=>exact ⟨0,n3,zn3,[],none,0,rfl,by omega,⟨by simp⟩,I10,J0⟩
   case round=>
    obtain ⟨i3,m3,s4,xs,A3,c3,rfl,him3,LX,I11,TJ⟩:=hrel;clear I10 J0;have hN3:=Ln3.1;go_upto_region 25 with (fail);go_cut [102] (fun s102 wx=>s102 = .bool (decide (i3<n3)&&(s4.2 == 0))∧wx=wr)
    case first=>
     have c2:=I11.1.cu.c2;by_cases hlt:i3<n3
     ·have hl:((i3:Int)<(n3:Int))=True:=by simp;omega
      by_cases he:s4.2=0
      ·have heb:(s4.2 != 0)=false:=by rw [he];rfl
       rw [heb] at c2;go_wp2_with fail;go_meet;exact ⟨by rw [decide_eq_true hlt,he];rfl,rfl⟩
      ·have heb:(s4.2 != 0)=true:=by simpa using he
       rw [heb] at c2;go_wp2_with fail;go_meet;exact ⟨by rw [show (s4.2 == 0)=false from by simpa using he,DW],rfl⟩
     ·have hl:((i3:Int)<(n3:Int))=False:=by simp;omega
      go_wp2_with fail;go_meet;exact ⟨by rw [decide_eq_false hlt];rfl,rfl⟩
    obtain ⟨rfl,rfl⟩:=hcut;by_cases hgo:i3<n3∧s4.2=0
    ·obtain ⟨m3,rfl⟩:∃k,m3=k+1:=⟨m3 - 1,by omega⟩;have TE:=aa (FU hgo.2 TJ.1);rw [Fo hgo];clear TJ hgo;unfold pY at TE;go_wp2_with fail;have hk:=nN I11.1.cu.Af;refine (Eh 1 (by omega) I11.1.cu).mono ?_;rintro e w1 ⟨rfl,hq,hm,hb⟩;have M1:=aa (I11.1.call hq hm);clear hq hm hb I11;generalize aZ 1 s4=q at M1 TE hk ⊢;obtain ⟨cl,zcl⟩:=q;try simp only at TE hk
     replace M1:=aa (show RI W A c l b sb tb B w1 zcl _ _ _ _ _ _ _ from M1.1);have Bcl:=aa (show 0≤cl∧cl≤255 from hk);clear hk;go_wp2_with fail;have hk:=mN M1.1.cu.Af;refine (Eh 8 (by omega) M1.1.cu).mono ?_;rintro e w2 ⟨rfl,hq,hm,hb⟩;have M2:=aa (M1.1.call hq hm);clear hq hm hb M1;generalize aZ 8 zcl=q at M2 TE hk ⊢;obtain ⟨sq,zsq⟩:=q;try simp only at TE hk
     replace M2:=aa (show RI W A c l b sb tb B w2 zsq _ _ _ _ _ _ _ from M2.1);have Bsq:=aa (show 0≤sq∧sq≤18446744073709551615 from hk);clear hk;go_wp2_with fail;have hk:=nN M2.1.cu.Af;refine (Eh 1 (by omega) M2.1.cu).mono ?_;rintro e w3 ⟨rfl,hq,hm,hb⟩;have M3:=aa (M2.1.call hq hm);clear hq hm hb M2;generalize aZ 1 zsq=q at M3 TE hk ⊢;obtain ⟨st,zst⟩:=q;try simp only at TE hk
     replace M3:=aa (show RI W A c l b sb tb B w3 zst _ _ _ _ _ _ _ from M3.1);have Bst:=aa (show 0≤st∧st≤255 from hk);clear hk;have hw1:=Gu Bcl.1;have hw2:=Gu Bst.1;go_upto_region 30 with (fail);have y3:w3.cell? ⟨sb,3,none⟩=some (.slice A3 xs.length c3):=cell_of M3.1.sblk 3;go_wp2_with (first|((with_reducible refine aM (b:= .append) (xs:=#[.tmp 112, .tmp 119]) rfl ?_);refine Kd.cG mg B rfl (.tmp 112) (.tmp 119) 25 62 (.agg #[.int .u8 0, .int .u64 0, .int .u8 0]) 24 rfl Tryz.underlying25 mr rfl (by decide) (by omega) (.slice A3 xs.length c3) xs ⟨cl,sq,st⟩ [.int .u8 cl, .int .u64 sq, .int .u8 st] (fun _=>True) (fun _=>False) rfl rfl (mX _ _ _ ⟨cl,sq,st⟩) (fun _ h=>h.elim) (fun _ _=>trivial) M3.1.r3 (Below.refl _ _) M3.1.hBw (by have:=LX.1;omega) ?_;intro vz w6 hR _ hG _;obtain ⟨Az,cz,hv⟩:=Kd.aG hR;rw [List.length_append,List.length_singleton] at hv;subst hv;have M4:=aa (M3.1.Gz hG hR);clear hR hG M3)|((with_reducible refine gS 121 120 rfl ?_);refine sC 3 (.slice Az (xs.length+1) cz) (Eo a0 (.slice A1 ts.length c1) (.slice A2 ps.length c2') (.slice Az (xs.length+1) cz) (0) (0) (.slice none 0 0)) M4.1.sblk ?_;intro wz hW hG;have M5:=aa (M4.1.sets hG.1 hW.1);clear hW hG M4;generalize wz=w5 at M5 ⊢));go_roundw
     case rel=>exact ⟨i3+1,m3,zst,xs++[⟨cl,sq,st⟩],Az,cz,by go_num,by omega,⟨by have:=LX.1;rw [List.length_append,List.length_singleton];omega⟩,⟨by have h:=M5.1;rw [List.length_append,List.length_singleton];exact h⟩,⟨by rw [List.append_assoc];exact TE.1⟩⟩
     case measure=>
      show n3 - ((i3:Int)+1).toNat<n3 - (i3:Int).toNat;omega
    have TE:=aa (EP him3 hgo TJ.1);rw [Fk (m:=m3) hgo];have hQ:=TE.1;subst hQ;simp only at HP;clear TJ hgo TE;go_wp2_with fail;have hk:=Ac 1073741824 (by omega) _ I11.1.cu.Af;refine (Ea 1073741824 (by omega) (by omega) I11.1.cu).mono ?_;rintro e w12 ⟨rfl,hq,hm,hb⟩;have I12:=aa (I11.1.call hq hm);clear hq hm hb I11;generalize vw 1073741824 s4=q at I12 HP hk ⊢;obtain ⟨y,zfr⟩:=q;obtain ⟨fr,rfl⟩:=Int.eq_ofNat_of_zero_le hk.1;have Lfr:=aa (show fr≤1073741824 by have:=hk.2.1;simp only at this;omega);simp only [Int.toNat_natCast] at HP;replace I12:=aa (show RI W A c l b sb tb B w12 zfr _ _ _ _ _ _ _ from I12.1);clear hk;go_upto_region 32 with ((with_reducible refine gS 124 123 rfl ?_);refine sC 4 (.int .i64 fr) (Eo a0 (.slice A1 ts.length c1) (.slice A2 ps.length c2') (.slice A3 xs.length c3) (fr) (0) (.slice none 0 0)) I12.1.sblk ?_;intro wz hW hG;have I13:=aa (I12.1.sets hG.1 hW.1);clear hW hG I12;generalize wz=w13 at I13 ⊢);go_wp2_with fail;have hk:=Ac 1073741824 (by omega) _ I13.1.cu.Af;refine (Ea 1073741824 (by omega) (by omega) I13.1.cu).mono ?_;rintro e w14 ⟨rfl,hq,hm,hb⟩;have I14:=aa (I13.1.call hq hm);clear hq hm hb I13;generalize vw 1073741824 zfr=q at I14 HP hk ⊢;obtain ⟨y,zgr⟩:=q;obtain ⟨gr,rfl⟩:=Int.eq_ofNat_of_zero_le hk.1;have Lgr:=aa (show gr≤1073741824 by have:=hk.2.1;simp only at this;omega);simp only [Int.toNat_natCast] at HP;replace I14:=aa (show RI W A c l b sb tb B w14 zgr _ _ _ _ _ _ _ from I14.1);clear hk;go_upto_region 33 with ((with_reducible refine gS 127 126 rfl ?_);refine sC 5 (.int .i64 gr) (Eo a0 (.slice A1 ts.length c1) (.slice A2 ps.length c2') (.slice A3 xs.length c3) (fr) (gr) (.slice none 0 0)) I14.1.sblk ?_;intro wz hW hG;have I15:=aa (I14.1.sets hG.1 hW.1);clear hW hG I14;generalize wz=w15 at I15 ⊢);go_wp2_with fail;have O15:=aa (show OI W w15 A c l b sb tb w15 zgr (Eo a0 (.slice A1 ts.length c1) (.slice A2 ps.length c2') (.slice A3 xs.length c3) (fr) (gr) (.slice none 0 0)) (.slice none 0 0) [] from ⟨I15.1.cu,Mv.refl _ _,Below.refl _ _,I15.1.sblk,I15.1.tblk,Kd.cY _ _ _ _ _,I15.1.cu.bel.size,ak I15.1.sblk,I15.1.hs0,I15.1.hts,ak I15.1.tblk⟩);refine (Ft a0 _ _ _ fr gr O15.1).mono ?_;rintro e w16 ⟨rfl,A6,c6,hE⟩;have R1:=aa (Kd.bI (eV I15.1.r1 hE.mv (Em (L:=[]) rfl (by decide)))).2;have R2:=aa (Kd.bI (eV I15.1.r2 hE.mv (Em (L:=[]) rfl (by decide)))).2;have R3:=aa (Kd.bI (eV I15.1.r3 hE.mv (Em (L:=[]) rfl (by decide)))).2;have T0:=aa I15.1.ht0;clear O15 I15;generalize Et zgr=q at hE HP;obtain ⟨es,ze⟩:=q;simp only at HP;have hB:=HP.1;subst hB;have E:=aa (show OI W w15 A c l b sb tb w16 ze (Eo a0 (.slice A1 ts.length c1) (.slice A2 ps.length c2') (.slice A3 xs.length c3) (fr) (gr) (.slice A6 es.length c6)) (.slice A6 es.length c6) es from hE);have c2:=E.1.cu.c2;clear hE HP;by_cases he:ze.2=0
    case neg=>
     have heb:(ze.2 != 0)=true:=by simpa using he
     rw [heb] at c2;have HO2:=aa (show none=o by have h:=HO.1;rw [Fi,if_neg he] at h;exact h);go_wp2_with ((with_reducible refine gS 2 134 rfl ?_);refine sB hZ E.1.tblk ?_;intro wz WZ GZ);refine l9 WZ.1 hu30 ?_;exact sX.no HO2.1 (Fe E.1.cu.bel GZ.1 T0.1 E.1.cu.bel.size)
    have heb:(ze.2 != 0)=false:=by rw [he];rfl
    rw [heb] at c2;have HR:=aa (show pL w16 ⟨a0,ts,ps,xs,fr,gr,es⟩ A1 A2 A3 A6 c1 c2' c3 c6 from ⟨R1.1.2,R1.1.1,FH (w:=w16) (d:=Gl W) (d':=Ee) rfl (Gs E.1.cu.bel) R2.1.2,R2.1.1,R3.1.2,R3.1.1,FH (w:=w16) (d:=FQ W) (d':=ld) rfl (Gn E.1.cu.bel) (Kd.bI E.1.r6).2.2,(Kd.bI E.1.r6).2.1⟩);have HO2:=aa (show (if ni (⟨a0,ts,ps,xs,fr,gr,es⟩:Hs)=true∧gT (dV ⟨a0,ts,ps,xs,fr,gr,es⟩)=l then some (⟨a0,ts,ps,xs,fr,gr,es⟩:Hs) else none)=o by have h:=HO.1;rw [Fi,if_pos he] at h;exact h);clear HO he R1 R2 R3;have SV:=aa (show Calls Tryz.prog 8 #[.agg (Eo a0 (.slice A1 ts.length c1) (.slice A2 ps.length c2') (.slice A3 xs.length c3) (fr) (gr) (.slice A6 es.length c6))] w16 (Dx w16 ⟨a0,ts,ps,xs,fr,gr,es⟩) from ref.Bt ⟨a0,ts,ps,xs,fr,gr,es⟩ A1 A2 A3 A6 c1 c2' c3 c6 w16 HR.1 HBD.1);have TW:=aa (fun (w:World) (h:Below w16.heap.size w16 w)=>show Calls Tryz.prog 6 #[.agg (Eo a0 (.slice A1 ts.length c1) (.slice A2 ps.length c2') (.slice A3 xs.length c3) (fr) (gr) (.slice A6 es.length c6))] w _ from ref.CJ ⟨a0,ts,ps,xs,fr,gr,es⟩ A1 A2 A3 A6 c1 c2' c3 c6 w (HR.1.below h) HBD.1);have HSB:=aa (show ni (⟨a0,ts,ps,xs,fr,gr,es⟩:Hs)=true→aq (gT (dV ⟨a0,ts,ps,xs,fr,gr,es⟩)) from fun hw=>Ew _ HBD.1 hw);clear HR HBD;generalize (⟨a0,ts,ps,xs,fr,gr,es⟩:Hs)=s at SV TW HO2 HSB;go_wp2_with ((with_reducible refine az (N:=136) rfl ?_);refine lB E.1.sblk Tryz.underlying30 ?_);refine SV.1.mono ?_;rintro e w17 ⟨hB,hS⟩;have T17:=aa ((hB.block tb (ak E.1.tblk)).trans E.1.tblk);have S17:=aa ((hB.block sb (ak E.1.sblk)).trans E.1.sblk);have B17:=aa (E.1.cu.bel.trans (hB.mono E.1.cu.bel.size));have LW:=aa (Kd.aN HL.1 (E.1.cu.bel.trans (hB.mono E.1.cu.bel.size)));by_cases hw:ni s=true
    case neg=>
     rw [if_neg hw] at hS;subst hS;have HO3:=aa (show none=o by rw [←HO2.1,if_neg (fun h=>hw h.1)]);go_wp2_with ((with_reducible refine gS 2 149 rfl ?_);refine sB hZ T17.1 ?_;intro wz WZ GZ);refine l9 WZ.1 hu30 ?_;exact sX.no HO3.1 (Fe B17.1 GZ.1 T0.1 B17.1.size)
    rw [if_pos hw] at hS;obtain ⟨v,rfl,hR⟩:=hS;obtain ⟨Ab,cb,rfl⟩:=Kd.aG hR;have RB:=aa hR;have HY2:=aa (HSB.1 hw);have TW17:=aa (TW.1 w17 hB);clear hB hR TW SV HSB E;have hcv:=Kd.cT (P:=Tryz.prog) (A:=Ab) (c:=cb) Tryz.underlying32 Tryz.underlying5 Tryz.underlying9 (Kd.bI RB.1).2.2;have hcw:=Kd.cT (P:=Tryz.prog) (A:=A) (c:=c) Tryz.underlying32 Tryz.underlying5 Tryz.underlying9 LW.1;by_cases hq:gT (dV s)=l
    case neg=>
     have hne:((strOfNums (gT (dV s))).toList == (strOfNums l).toList)=false:=by rw [Fq _ _ HY2.1 HY.1];exact decide_eq_false hq
     have HO3:=aa (show none=o by rw [←HO2.1,if_neg (fun h=>hq h.2)]);go_wp2_with ((with_reducible refine gS 2 149 rfl ?_);refine sB hZ T17.1 ?_;intro wz WZ GZ);refine l9 WZ.1 hu30 ?_;exact sX.no HO3.1 (Fe B17.1 GZ.1 T0.1 B17.1.size)
    have hne:((strOfNums (gT (dV s))).toList == (strOfNums l).toList)=true:=by rw [Fq _ _ HY2.1 HY.1];exact decide_eq_true hq
    have HO3:=aa (show some s=o by rw [←HO2.1,if_pos ⟨hw,hq⟩]);clear hw hq HO2;go_wp2_with ((with_reducible refine az (N:=150) rfl ?_);refine lB S17.1 Tryz.underlying30 ?_);refine TW17.1.mono ?_;rintro e w18 ⟨u1,u2,u3,u6,rfl,h1,h2,h3,h6,hB⟩;obtain ⟨D1,d1,rfl⟩:=Kd.aG h1;obtain ⟨D2,d2,rfl⟩:=Kd.aG h2;obtain ⟨D3,d3,rfl⟩:=Kd.aG h3;obtain ⟨D6,d6,rfl⟩:=Kd.aG h6;have HM:=aa (show zw w18 w17.heap.size s _ _ _ _ from ⟨h1,h2,h3,h6⟩);have T18:=aa ((hB.block tb (ak T17.1)).trans T17.1);have B18:=aa (B17.1.trans (hB.mono B17.1.size));have B17s:=aa B17.1.size;clear h1 h2 h3 h6 hB T17 B17 S17 TW17 hcv hcw hne;go_upto_region 40 with ((with_reducible refine gS 20 151 rfl ?_);refine sB #[.int .u8 s.self, .slice D1 s.table.length d1, .slice D2 s.pairs.length d2, .slice D3 s.ses.length d3, .int .i64 s.free, .int .i64 s.spare, .slice D6 s.peers.length d6] (aJ _ _) ?_;intro wz WZ GZ;have B19:=aa (Fe (ah (Below.refl w18.heap.size w18) _) GZ.1 (Nat.le_refl _) (ah (Below.refl _ _) _).size);have W19:=WZ;clear WZ GZ;generalize wz=w19 at W19 B19 ⊢);go_wp2_with (first|((with_reducible refine az (N:=152) rfl ?_);refine lB W19.1 Tryz.underlying30 ?_)|((with_reducible refine gS 2 152 rfl ?_);refine sB #[.int .u8 s.self, .slice D1 s.table.length d1, .slice D2 s.pairs.length d2, .slice D3 s.ses.length d3, .int .i64 s.free, .int .i64 s.spare, .slice D6 s.peers.length d6] ((B19.1.block tb (ak T18.1)).trans T18.1) ?_;intro wz WZ GZ;have BZ:=aa (Fe (B18.1.trans (B19.1.mono B18.1.size)) GZ.1 T0.1 (Nat.le_trans B18.1.size B19.1.size));have MZ:=aa (zw.lower (zw.mv (zw.Gw HM.1 B19.1) (Mv.bG (ts:=[30]) GZ.1 ((B19.1.block tb (ak T18.1)).trans T18.1) (by decide)) (by decide) (by decide) (by decide) (by decide) (by decide) (by decide) (by decide)) B17s.1)));refine l9 WZ.1 hu30 ?_;exact sX.ok HO3.1 BZ.1 MZ.1
end Go.Proofs.YtpekmdpbfjdjkaaGreat.dO
namespace Go.Proofs.YtpekmdpbfjdjkaaGreat.ref
open Go Go.RowKit ag.ax ag.aV ag.aU aD fr iK cL plain fE dO
theorem kV (a r:List Int) (n:Nat) (h:a.length=n):eg n (a++r,0)=(some a,(r,0)):=by
 subst h;rw [eg];simp only [ne_eq,not_true,if_false];rw [if_neg (by rw [List.length_append];omega),List.take_left,fX]
theorem gM (x:Int) (h0:0≤x) (h1:x≤18446744073709551615) (r:List Int):aZ 8 (b8 x++r,0)=(x,(r,0)):=by
 rw [aZ,kV _ r 8 (dH x)];simp only [Option.getD_some,b8,qU];congr 1;omega
theorem ie (c:Int) (r:List Int):aZ 1 (c::r,0)=(c,(r,0)):=by
 have h:=kV [c] r 1 rfl;rw [List.singleton_append] at h;rw [aZ,h];simp [val]
theorem sv (n:Nat) (hn:n<18446744073709551616) (r:List Int) (hr:aq r):gq 0 0 (bu n++r)=((n:Int),((bu n).length:Int),0):=by
 have hb:aq (bu n++r):=cR (gU n) hr;have hu:un 0 0 (bu n++r)=some ((n:Int),(bu n).length):=(vM (bu n++r) hb _ _).2 ⟨n,r,rfl,rfl,rfl,by omega⟩;exact (uH (bu n++r) 0 0).1 _ _ hu
theorem wv (n:Nat) (hn:n<18446744073709551616) (r:List Int) (hr:aq r):fQ (bu n++r,0)=((n:Int),(r,0)):=by
 rw [fQ];simp only [ne_eq,not_true,if_false,sv n hn r hr,Int.toNat_natCast,fX]
theorem gI (most n:Nat) (hn:n≤most) (hm:most≤2000000000) (r:List Int) (hr:aq r):bL most (bu n++r,0)=((n:Int),(r,0)):=by
 rw [bL,wv n (by omega) r hr];simp only [ne_eq,not_true,if_false];rw [if_neg (by omega)]
theorem lC (most:Nat) (l r:List Int) (hl:l.length≤most) (hm:most≤2000000000) (hb:aq l) (hr:aq r):bX most (dI l++r,0)=(l,(r,0)):=by
 have hd:=sv l.length (by omega) (l++r) (cR hb hr);rw [bX,dI,List.append_assoc];simp only [ne_eq,not_true,if_false,hd,Int.toNat_natCast,fX,List.length_append];rw [if_neg (by omega),if_neg (by omega),tF,kV l r _ rfl];rfl
theorem kO {α:Type} (f:(List Int × Int)→α × (List Int × Int)) (enc:α→List Int) (l:List α) (hf:∀x∈l,aq (enc x)∧∀r,aq r→f (enc x++r,0)=(x,(r,0))) (r:List Int) (hr:aq r):cn f l.length (l.flatMap enc++r,0)=(l,(r,0)):=by
 induction l with
 | nil=>rfl
 | cons x l ih=>
  have hl:=ih (fun y hy=>hf y (List.mem_cons_of_mem _ hy));have hb:aq (l.flatMap enc++r):=cR (fD enc l (fun y hy=>(hf y (List.mem_cons_of_mem _ hy)).1)) hr;rw [List.length_cons,cn,bY,List.append_assoc,(hf x List.mem_cons_self).2 _ hb,hl]
theorem xZ (p:iA) (h0:0≤p.f0) (h1:p.f0≤18446744073709551615) (hl:p.f1.length≤64) (hb:aq p.f1) (r:List Int) (hr:aq r):oT (dY p++r,0)=(p,(r,0)):=by
 rw [oT,dY,List.append_assoc,gM p.f0 h0 h1,lC 64 p.f1 r hl (by decide) hb hr]
theorem xf (x:jx) (h0:0≤x.f1) (h1:x.f1≤18446744073709551615) (r:List Int):pY (ej x++r,0)=(x,(r,0)):=by
 rw [pY,ej,List.cons_append,List.append_assoc,ie,gM x.f1 h0 h1,List.singleton_append,ie]
theorem yP (f:jE) (h0:0≤f.f0) (h1:f.f0≤18446744073709551615) (hl:f.f1.length≤3072) (hb:aq f.f1) (r:List Int) (hr:aq r):qN (jN f++r,0)=(f,(r,0)):=by
 rw [qN,jN,List.append_assoc,gM f.f0 h0 h1,lC 3072 f.f1 r hl (by decide) hb hr]
theorem yV {f:jE} (h:aq f.f1):aq (jN f):=cR (jv _) (kD h)
theorem tW (x:gX) (hb:qQ x) (hl:BH x) (r:List Int) (hr:aq r):jI (cX x++r,0)=(x,(r,0)):=by
 have i5:aq (x.f5.flatMap jN++r):=cR (fD jN x.f5 (fun f hf=>yV (hb.y5 f hf).2)) hr;have i4:aq (gr x.f5.length++(x.f5.flatMap jN++r)):=cR (gU _) i5;have i3:aq (x.f2.flatMap dI++(gr x.f5.length++(x.f5.flatMap jN++r))):=cR (fD dI x.f2 (fun b hb'=>kD (hb.y2 b hb'))) i4;have e2:=gI 16 x.f2.length hl.n2 (by decide) _ i3;have e3:=kO (bX 3072) dI x.f2 (fun b hb'=>⟨kD (hb.y2 b hb'),fun r hr=>lC 3072 b r (hl.s2 b hb') (by decide) (hb.y2 b hb') hr⟩) _ i4;have e4:=gI 16 x.f5.length hl.n5 (by decide) _ i5;have e5:=kO qN jN x.f5 (fun f hf=>⟨yV (hb.y5 f hf).2,fun r hr=>yP f (hb.y5 f hf).1.1 (hb.y5 f hf).1.2 (hl.s5 f hf) (hb.y5 f hf).2 r hr⟩) r hr;unfold jI;simp only [cX,List.append_assoc,gM x.f0 hb.m0'.1 hb.m0'.2,gM x.f1 hb.m1'.1 hb.m1'.2,gM x.f3 hb.m0 hb.m1,gM x.f4 hb.m4'.1 hb.m4'.2];simp only [gr] at e2 e3 e4 e5 ⊢;simp only [e2,Int.toNat_natCast,e3,e4,e5]
theorem rD (l:List gX) (h:∀x∈l,qQ x∧BH x) (r:List Int) (hr:aq r):fe l.length (l.flatMap cX++r,0)=(l,(r,0)):=by
 induction l with
 | nil=>rfl
 | cons x l ih=>
  have hl:=ih (fun y hy=>h y (List.mem_cons_of_mem _ hy));have hb:aq (l.flatMap cX++r):=cR (fD cX l (fun y hy=>pI (h y (List.mem_cons_of_mem _ hy)).1)) hr;have hx:=h x List.mem_cons_self;rw [List.length_cons,fe,bY,List.append_assoc,tW x hx.1 hx.2 _ hb,hl];rfl
theorem uO (l:List gX) (h:∀x∈l,qQ x∧BH x) (r:List Int) (hr:aq r):pX (fI l++r,0)=(l,(r,0)):=by
 rw [pX,fI,List.cons_append,ie];simp only [Int.toNat_natCast];exact rD l h r hr
theorem tC (l:List eW):∀(lo:Int) (full:Bool) (r:List Int),jc l lo full=true→(∀x∈l,(0≤x.f1∧x.f1≤18446744073709551615))→eX l.length lo (l.flatMap iR++r,0)=(l,(r,0)):=by
 induction l with
 | nil=>intro lo full r _ _;rfl
 | cons s l ih=>
  intro lo full r h hb;rw [jc] at h;split at h
  ·cases h
  split at h
  case isFalse=>cases h
  split at h
  case isFalse=>cases h
  split at h
  case isFalse=>cases h
  rename_i hlo _ _;have hs:=hb s List.mem_cons_self;have e:=ih _ _ r h (fun y hy=>hb y (List.mem_cons_of_mem _ hy));rw [List.length_cons,eX,bY,List.append_assoc,iR,List.append_assoc,gM s.f1 hs.1 hs.2,List.singleton_append,ie,e,←hlo]
theorem tg (s:Hs) (hb:oO s) (h:DS s) (r:List Int) (hr:aq r) (T:List Int) (hT:dV s=192::1::T):mI (T++r,0)=(s,(r,0)):=by
 have i6:aq (fI s.peers++r):=cR (fV ⟨by omega,by have:=h.peers.1;omega⟩ (fD cX s.peers (fun x hx=>pI (hb.b6.2 x hx)))) hr;have i5:aq (bu s.spare.toNat++(fI s.peers++r)):=cR (gU _) i6;have i4:aq (bu s.free.toNat++(bu s.spare.toNat++(fI s.peers++r))):=cR (gU _) i5;have j3:aq (s.ses.flatMap ej):=fD ej s.ses (fun x hx=>fV (hb.b3.2 x hx).1 (cR (jv _) (fV (hb.b3.2 x hx).2.2 jR)));have i3:=cR j3 i4;have k3:=cR (gU s.ses.length) i3;have j2:aq (s.pairs.flatMap dY):=fD dY s.pairs (fun x hx=>cR (jv _) (kD (hb.b2.2 x hx).2.2));have i2:=cR j2 k3;have k2:=cR (gU s.pairs.length) i2;have j1:aq (s.table.flatMap iR):=fD iR s.table (fun x hx=>cR (jv _) (fV (hb.b1.2 x hx).2.2 jR));have i1:=cR j1 k2;have htab:jc s.table 0 false=true:=by have:=h.tab.1;unfold fY at this;exact (Bool.and_eq_true_iff.1 this).1
 have e1:=gI 8192 s.table.length h.tab.2 (by decide) _ i1;have e2:=tC s.table 0 false (bu s.pairs.length++(s.pairs.flatMap dY++(bu s.ses.length++(s.ses.flatMap ej++(bu s.free.toNat++(bu s.spare.toNat++(fI s.peers++r))))))) htab (fun x hx=>(hb.b1.2 x hx).2.1);have e3:=gI 32768 s.pairs.length h.pairs.1 (by decide) _ i2;have e4:=kO oT dY s.pairs (fun p hp=>⟨cR (jv _) (kD (hb.b2.2 p hp).2.2),fun r hr=>xZ p (hb.b2.2 p hp).1.1 (hb.b2.2 p hp).1.2 (sR s.table s.self s.pairs none h.pairs.2 p hp) (hb.b2.2 p hp).2.2 r hr⟩) _ k3;have e5:=gI 16 s.ses.length h.ses.1 (by decide) _ i3;have e6:=kO pY ej s.ses (fun x hx=>⟨fV (hb.b3.2 x hx).1 (cR (jv _) (fV (hb.b3.2 x hx).2.2 jR)),fun r hr=>xf x (hb.b3.2 x hx).2.1.1 (hb.b3.2 x hx).2.1.2 r⟩) _ i4;have e7:=gI 1073741824 s.free.toNat (by have:=h.free;omega) (by decide) _ i5;have e8:=gI 1073741824 s.spare.toNat (by have:=h.spare;omega) (by decide) _ i6;have e9:=uO s.peers (fun x hx=>⟨hb.b6.2 x hx,h.peers.2.2 x hx⟩) r hr;have hf:((s.free.toNat:Nat):Int)=s.free:=by have:=h.free;omega
 have hsp:((s.spare.toNat:Nat):Int)=s.spare:=by have:=h.spare;omega
 unfold dV at hT;injection hT with _ hT;injection hT with _ hT;subst hT;unfold mI;simp only [gr,List.cons_append,List.append_assoc,ie,e1,Int.toNat_natCast,e2,e3,e4,e5,e6,e7,e8,e9,hf,hsp]
theorem rG (s:Hs) (hb:oO s) (h:ni s=true):lT (gT (dV s))=some s:=by
 have hw:=lA s h;have hlen:=jG s hw;have h4:(be 4 (eH (dV s))).length=4:=ia 4 _;have hl:(gT (dV s)).length=(dV s).length+4:=by rw [gT,List.length_append,h4]
 obtain ⟨T,hT⟩:∃T,dV s=192::1::T:=⟨_,rfl⟩;have hB:=tg s hb hw (be 4 (eH (dV s))) (lY 4 _) T hT;have ht:(gT (dV s)).take ((gT (dV s)).length - 4)=dV s:=by
  rw [hl,Nat.add_sub_cancel,gT,List.take_left]
 have hs:eH (dV s)<4294967296:=by unfold eH;omega
 have e4:(aZ 4 (be 4 (eH (dV s)),0)).1=((eH (dV s):Nat):Int):=by
  have hq:=kV (be 4 (eH (dV s))) [] 4 h4;rw [bM] at hq;rw [aZ,hq];simp only [Option.getD_some,qU];congr 1;omega
 unfold lT;rw [if_neg (by rw [hl];omega),if_neg (by rw [hl];omega),ht];have e0:gT (dV s)=192::(1::(T++be 4 (eH (dV s)))):=by rw [gT,hT];rfl
 rw [e0,ie,ie];simp only [if_true,hB,h4,e4,h]
theorem Fs (most:Int) (r:List Int):∀(k i n:Nat) (x:Int),n<128 ^ (k+1)→x+n*2 ^ (7*i)≤most→Ei most (k+1) i x (bu n++r,0)=(x+n*2 ^ (7*i),(r,0)):=by
 intro k;induction k with
 | zero=>
  intro i n x hn hm;have hl:n<128:=by simpa using hn
  rw [fz hl,List.singleton_append,Ei,ie];simp only;rw [if_pos (by omega),show (n:Int) % 128=n by omega,if_neg (by omega)]
 | succ k ih=>
  intro i n x hn hm;by_cases hl:n<128
  ·rw [fz hl,List.singleton_append,Ei,ie];simp only;rw [if_pos (by omega),show (n:Int) % 128=n by omega,if_neg (by omega)]
  ·have hp:(2:Int) ^ (7*(i+1))=128*2 ^ (7*i):=by rw [show 7*(i+1)=7*i+7 by omega,Int.pow_add,mV];rfl
   have e:x+((n % 128:Nat):Int)*2 ^ (7*i)+((n / 128:Nat):Int)*2 ^ (7*(i+1))=x+n*2 ^ (7*i):=by
    rw [hp,←pN,Ex,←Eu];congr 2;omega
   have h2:=ih (i+1) (n / 128) (x+((n % 128:Nat):Int)*2 ^ (7*i)) (by rw [eK] at hn;omega) (by rw [e];exact hm);rw [e] at h2;rw [iV (by omega),List.cons_append,Ei,ie];simp only;rw [if_neg (by omega),show ((n % 128+128:Nat):Int) % 128=((n % 128:Nat):Int) by omega];exact h2
theorem C6 (most n:Nat) (hn:n≤most) (hm:most≤2000000000) (r:List Int):vw most (bu n++r,0)=((n:Int),(r,0)):=by
 have h:=Fs most r 4 0 n 0 (by omega) (by simp;omega);simpa [vw] using h
theorem Ep (most:Nat) (l r:List Int) (hl:l.length≤most) (hm:most≤2000000000):DV most (dI l++r,0)=(l,(r,0)):=by
 rw [DV,dI,List.append_assoc,C6 most l.length hl hm];simp only [Int.toNat_natCast];rw [tF,kV l r _ rfl];rfl
theorem Ec {α:Type} (f:(List Int × Int)→α × (List Int × Int)) (enc:α→List Int) (l:List α) (hf:∀x∈l,∀r,f (enc x++r,0)=(x,(r,0))) (r:List Int):mu f l.length (l.flatMap enc++r,0)=(l,(r,0)):=by
 induction l with
 | nil=>rfl
 | cons x l ih=>
  have hl:=ih (fun y hy=>hf y (List.mem_cons_of_mem _ hy));rw [List.length_cons,mu,if_neg (fun h=>h rfl),bY,List.append_assoc,hf x List.mem_cons_self,hl]
theorem FJ (p:iA) (h0:0≤p.f0) (h1:p.f0≤18446744073709551615) (hl:p.f1.length≤64) (r:List Int):Fb (dY p++r,0)=(p,(r,0)):=by
 have e:=Ep 64 p.f1 r hl (by decide);rw [Fb,dY,List.append_assoc,gM p.f0 h0 h1];simp only;rw [show DV 64 (dI p.f1++r,0)=(p.f1,(r,0)) from e]
theorem FM (f:jE) (h0:0≤f.f0) (h1:f.f0≤18446744073709551615) (hl:f.f1.length≤3072) (r:List Int):Er (jN f++r,0)=(f,(r,0)):=by
 have e:=Ep 3072 f.f1 r hl (by decide);rw [Er,jN,List.append_assoc,gM f.f0 h0 h1];simp only;rw [show DV 3072 (dI f.f1++r,0)=(f.f1,(r,0)) from e]
theorem EX (x:gX) (hb:qQ x) (hl:BH x) (r:List Int):DU (cX x++r,0)=(x,(r,0)):=by
 have e2:=C6 16 x.f2.length hl.n2 (by decide) (x.f2.flatMap dI++(bu x.f5.length++(x.f5.flatMap jN++r)));have e3:=Ec (DV 3072) dI x.f2 (fun b hb' r=>Ep 3072 b r (hl.s2 b hb') (by decide)) (bu x.f5.length++(x.f5.flatMap jN++r));have e4:=C6 16 x.f5.length hl.n5 (by decide) (x.f5.flatMap jN++r);have e5:=Ec Er jN x.f5 (fun f hf r=>FM f (hb.y5 f hf).1.1 (hb.y5 f hf).1.2 (hl.s5 f hf) r) r;unfold DU;simp only [cX,List.append_assoc,gM x.f0 hb.m0'.1 hb.m0'.2,gM x.f1 hb.m1'.1 hb.m1'.2,gM x.f3 hb.m0 hb.m1,gM x.f4 hb.m4'.1 hb.m4'.2,gr];rw [show vw 16 _=_ from e2];simp only [Int.toNat_natCast];rw [e3];simp only;rw [show vw 16 _=_ from e4];simp only [Int.toNat_natCast];rw [e5]
theorem Fx (l:List gX) (h:∀x∈l,qQ x∧BH x) (r:List Int):Et (fI l++r,0)=(l,(r,0)):=by
 rw [Et,fI,List.cons_append,ie];simp only [Int.toNat_natCast];exact Ec DU cX l (fun x hx r=>EX x (h x hx).1 (h x hx).2 r) r
theorem EW (l:List eW):∀(lo:Int) (full:Bool) (r:List Int),jc l lo full=true→(∀x∈l,(0≤x.f1∧x.f1≤18446744073709551615))→DT l.length lo (l.flatMap iR++r,0)=(l,(r,0)):=by
 induction l with
 | nil=>intro lo full r _ _;rfl
 | cons s l ih=>
  intro lo full r h hb;rw [jc] at h;split at h
  ·cases h
  split at h
  case isFalse=>cases h
  split at h
  case isFalse=>cases h
  split at h
  case isFalse=>cases h
  rename_i hlo _ _;have hs:=hb s List.mem_cons_self;have e:=ih _ _ r h (fun y hy=>hb y (List.mem_cons_of_mem _ hy));rw [List.length_cons,DT,if_neg (fun h=>h rfl),bY,List.append_assoc,iR,List.append_assoc,gM s.f1 hs.1 hs.2,List.singleton_append,ie,e,←hlo]
theorem EV (s:Hs) (hb:oO s) (h:DS s) (r:List Int) (T:List Int) (hT:dV s=192::1::T):El (T++r,0)=(s,(r,0)):=by
 have htab:jc s.table 0 false=true:=by have:=h.tab.1;unfold fY at this;exact (Bool.and_eq_true_iff.1 this).1
 have e1:∀r,vw 8192 (bu s.table.length++r,0)=((s.table.length:Int),(r,0)):=fun r=>C6 8192 s.table.length h.tab.2 (by decide) r;have e2:=fun r=>EW s.table 0 false r htab (fun x hx=>(hb.b1.2 x hx).2.1);have e3:∀r,vw 32768 (bu s.pairs.length++r,0)=((s.pairs.length:Int),(r,0)):=fun r=>C6 32768 s.pairs.length h.pairs.1 (by decide) r;have e4:=Ec Fb dY s.pairs (fun p hp r=>FJ p (hb.b2.2 p hp).1.1 (hb.b2.2 p hp).1.2 (sR s.table s.self s.pairs none h.pairs.2 p hp) r);have e5:∀r,vw 16 (bu s.ses.length++r,0)=((s.ses.length:Int),(r,0)):=fun r=>C6 16 s.ses.length h.ses.1 (by decide) r;have e6:=Ec pY ej s.ses (fun x hx r=>xf x (hb.b3.2 x hx).2.1.1 (hb.b3.2 x hx).2.1.2 r);have e7:∀r,vw 1073741824 (bu s.free.toNat++r,0)=((s.free.toNat:Int),(r,0)):=fun r=>C6 1073741824 s.free.toNat (by have:=h.free;omega) (by decide) r;have e8:∀r,vw 1073741824 (bu s.spare.toNat++r,0)=((s.spare.toNat:Int),(r,0)):=fun r=>C6 1073741824 s.spare.toNat (by have:=h.spare;omega) (by decide) r;have e9:=Fx s.peers (fun x hx=>⟨hb.b6.2 x hx,h.peers.2.2 x hx⟩) r;have hf:((s.free.toNat:Nat):Int)=s.free:=by have:=h.free;omega
 have hsp:((s.spare.toNat:Nat):Int)=s.spare:=by have:=h.spare;omega
 unfold dV at hT;injection hT with _ hT;injection hT with _ hT;subst hT;unfold El;simp only [gr,List.cons_append,List.append_assoc,ie,e1,Int.toNat_natCast,e2,e3,e4,e5,e6,e7,e8,e9,hf,hsp]
def Un {α:Type} (f:(List Int × Int)→α × (List Int × Int)) (enc:α→List Int):Prop:=∀s:List Int × Int,aq s.1→(f s).2.2=0→s.2=0∧s.1=enc (f s).1++(f s).2.1
theorem Aw (n:Nat):Un (aZ n) (fun x=>be n x.toNat):=by
 rintro ⟨l,e⟩ hb h;unfold aZ eg at h ⊢;simp only at hb h ⊢;by_cases h0:e=0
 ·subst h0;by_cases hl:l.length<n
  ·simp [hl] at h
  ·have ht:(l.take n).length=n:=by rw [List.length_take];omega
   have hv:=AX (l.take n) (fun c hc=>hb c (List.mem_of_mem_take hc));rw [ht] at hv;simp only [ne_eq,not_true,if_false,if_neg hl,Option.getD_some,hv,Eb,and_self]
 ·simp [h0] at h
theorem Gp {x:Int} (h:0≤x∧x≤255):be 1 x.toNat=[x]:=by
 simp only [be,Nat.pow_zero,Nat.div_one];congr 1;omega
theorem FO:Un fQ (fun x=>bu x.toNat):=by
 rintro ⟨l,e⟩ hb h;unfold fQ at h ⊢;simp only at hb h ⊢;by_cases h0:e=0
 ·subst h0;by_cases h1:(gq 0 0 l).2.2=0
  ·obtain ⟨y,rest,h2,h3,h4⟩:=ny hb h1;simp only [ne_eq,not_true,if_false,h2,Int.toNat_natCast,true_and];rw [h3,fX]
  ·simp [h1] at h
 ·simp [h0] at h
theorem DX (most:Nat):Un (bL most) (fun x=>bu x.toNat):=by
 intro s hb h;unfold bL oI at h ⊢;by_cases h1:(most:Int)<(fQ s).1
 ·rw [if_pos h1] at h;simp only at h;split at h
  ·cases h
  ·rename_i h2;exact absurd h h2
 ·rw [if_neg h1] at h ⊢;by_cases h2:(fQ s).2.2=0
  ·rw [if_neg (fun k=>k h2)] at h ⊢;exact FO s hb h
  ·rw [if_pos h2] at h;exact absurd h h2
theorem Ej (most:Nat):Un (bX most) dI:=by
 rintro ⟨l,e⟩ hb h;unfold bX tF eg at h ⊢;simp only at hb h ⊢;by_cases h0:e=0
 ·subst h0;by_cases h1:(gq 0 0 l).2.2=0
  ·obtain ⟨y,rest,h2,h3,h4⟩:=ny hb h1;have hd:l.drop (bu y).length=rest:=by rw [h3,fX]
   have hl:l.length=(bu y).length+rest.length:=by rw [h3,List.length_append]
   simp only [ne_eq,not_true,if_false,h2,Int.toNat_natCast,hd] at h ⊢;by_cases h5:(most:Int)<(y:Int)
   ·rw [if_pos h5] at h;simp at h
   by_cases h6:(l.length:Int) - (bu y).length<y
   ·rw [if_neg h5,if_pos h6] at h;simp at h
   rw [if_neg h5,if_neg h6,if_neg (by omega)];simp only [Option.getD_some,true_and];rw [dI,List.length_take,show min y rest.length=y by omega,List.append_assoc,Eb,←h3]
  ·simp [h1] at h
 ·simp [h0] at h
theorem Ed {α:Type} (f:(List Int × Int)→α × (List Int × Int)):∀(n:Nat) (s:List Int × Int),(cn f n s).1.length=n:=by
 intro n;induction n with
 | zero=>intro s;rfl
 | succ n ih=>intro s;rw [cn,List.length_cons,ih]
theorem Eg {α:Type} {f:(List Int × Int)→α × (List Int × Int)} {enc:α→List Int} (hf:Un f enc) (hy:∀s,aq s.1→aq (f s).2.1):∀n,Un (cn f n) (fun l=>l.flatMap enc):=by
 intro n;induction n with
 | zero=>intro s hb h;exact ⟨h,rfl⟩
 | succ n ih=>
  intro s hb h;rw [cn] at h ⊢;obtain ⟨h1,h2⟩:=ih (f s).2 (hy s hb) h;obtain ⟨h3,h4⟩:=hf s hb h1;refine ⟨h3,?_⟩;simp only [bY,List.append_assoc] at h2 ⊢;rw [←h2];exact h4
theorem FX:Un oT dY:=by
 intro s hb h;obtain ⟨h1,h2⟩:=Ej 64 _ (cw (n:=8) hb) h;obtain ⟨h3,h4⟩:=Aw 8 s hb h1;exact ⟨h3,by rw [h4,h2,dY,List.append_assoc];rfl⟩
theorem Gb:Un qN jN:=by
 intro s hb h;obtain ⟨h1,h2⟩:=Ej 3072 _ (cw (n:=8) hb) h;obtain ⟨h3,h4⟩:=Aw 8 s hb h1;exact ⟨h3,by rw [h4,h2,jN,List.append_assoc];rfl⟩
theorem Gc:Un pY ej:=by
 intro s hb h;have b1:=cw (n:=1) hb;have b2:=cw (n:=8) b1;obtain ⟨h1,h2⟩:=Aw 1 _ b2 h;obtain ⟨h3,h4⟩:=Aw 8 _ b1 h1;obtain ⟨h5,h6⟩:=Aw 1 s hb h3;simp only [Gp (nN hb)] at h6;simp only [Gp (nN b2)] at h2;exact ⟨h5,by rw [h6,h4,h2,ej];simp only [List.append_assoc,List.cons_append];rfl⟩
theorem Fc:∀(n:Nat) (lo:Int),Un (eX n lo) (fun l=>l.flatMap iR):=by
 intro n;induction n with
 | zero=>intro lo s hb h;exact ⟨h,rfl⟩
 | succ n ih=>
  intro lo s hb h;have b1:=cw (n:=8) hb;have b2:=cw (n:=1) b1;rw [eX] at h ⊢;obtain ⟨h1,h2⟩:=ih _ _ b2 h;obtain ⟨h3,h4⟩:=Aw 1 _ b1 h1;obtain ⟨h5,h6⟩:=Aw 8 s hb h3;simp only [Gp (nN b1)] at h4;refine ⟨h5,?_⟩;simp only [bY,List.append_assoc,iR] at h2 ⊢;rw [←h2,←h4];exact h6
theorem EY:∀(n:Nat) (lo:Int) (s:List Int × Int),(eX n lo s).1.length=n:=by
 intro n;induction n with
 | zero=>intro lo s;rfl
 | succ n ih=>intro lo s;rw [eX,List.length_cons,ih]
end Go.Proofs.YtpekmdpbfjdjkaaGreat.ref