/- Part 11 of the proof that reading bytes answers as the document does. No condition. -/
import Derived.Test.YtpekmdpbfjdjkaaGreatY10
set_option maxHeartbeats 16000000
set_option maxRecDepth 100000
set_option linter.all false
namespace Go.Proofs.YtpekmdpbfjdjkaaGreat.aD
open Go.RowKit ag.ax ag.aV ag.aU
def bT.l0:Nat→List Int→List Int→Int→Option (List Int)
 | 0,_,_,_=>none
 | k+1,x0,x3,x4=>if x4<(x0.length:Int) then (if 0≤x4 then (if x3.length<140737488355328 then (bT.l0 k x0 (x3++[rd x0 x4]) (wrap64 (x4+1))) else (none)) else (none)) else (some x3)
def bT.f (k:Nat) (l0:List Int):Option (List Int):=bT.l0 k l0 ([]:List Int) 0
theorem bT.calls (k:Nat) (A0:Option Addr) (c0:Nat) (l0:List Int) (r:List Int) (w:World) (hr0:Kd.C (Kd.int .u8) w A0 l0.length l0) (hc0:l0.length≤c0) (h:bT.f k l0=some r) :
 Calls Tryz.prog 14 #[.slice A0 l0.length c0] w fun e w'=>∃v0_:Value,e = .returned (v0_)∧Kd.R (Kd.int .u8) 5 w' w.heap.size (fun _=>True) v0_ r∧Below w.heap.size w w':=by
 have HR0:=aa hr0;have HC0:=aa hc0;clear hr0 hc0;have HB:=aa (Below.refl w.heap.size w);have H:(bT.l0 k l0 ([]:List Int) 0)=some r:=h;clear h;have H':=aa H;clear H;go_in;go_wp2;go_loopg [3,4] k (fun kq v3 v4 w'=>∃(x3_1:List Int) (x4_1:Int),v4 = .int .i64 x4_1∧af (bT.l0 kq l0 x3_1 x4_1=some r)∧af (kq≤k)∧af (Kd.R (Kd.int .u8) 5 w' w.heap.size (fun _=>True) v3 x3_1)∧af (Below w.heap.size w w'))
 case atStart=>exact ⟨(([]:List Int)),(0),(by first|rfl|(simp;done)|(simp [*];done)),H',⟨Nat.le_refl _⟩,⟨by first|exact Kd.cY _ _ _ _ _|exact Kd.sw _ _ _ _ _|exact Kd.sZ _ _ _ _ _|exact Kd.sD _ _ _ _ _|exact Kd.sV _ _ _ _ _⟩,⟨by repeat (first|(with_reducible first|exact HB.1|apply ah|apply ai|apply ay)|exact HB.1)⟩⟩
 case round=>
  clear H';try clear c1
  obtain ⟨x3_1,x4_1,rfl,HA,HK1,HO_3,HB⟩:=hrel;cases gk with
  | zero=>exact absurd HA.1 (by simp [bT.l0])
  | succ k1=>
   have H:=HA.1;clear HA;simp only [bT.l0] at H;by_cases c2:x4_1<(l0.length:Int)
   ·rw [if_pos c2] at H;have c2b0:decide (x4_1<(l0.length:Int))=true:=decide_eq_true c2;clear c2;by_cases c3:0≤x4_1
    ·rw [if_pos c3] at H;have c3b0:decide (0≤x4_1)=true:=decide_eq_true c3;clear c3;by_cases c4:x3_1.length<140737488355328
     ·rw [if_pos c4] at H;have LMc4:=aa c4;clear c4;obtain ⟨y102,hy102⟩:∃y_:List Int,y_=(x3_1++[rd l0 x4_1]):=⟨_,rfl⟩;replace H:(bT.l0 k1 l0 y102 (wrap64 (x4_1+1)))=some r:=by first|(rw [hy102];with_reducible exact H)|(have H2_:=(aj _ _).symm.trans H;rw [hy102];with_reducible exact H2_)|(have H2_:=(aj _ _).symm.trans H;with_reducible exact H2_)|with_reducible exact H|(rw [hy102];exact H)|exact H
      have Ny102:=aa hy102;clear hy102;have H':=aa H;clear H;have p101:0≤(x4_1:Int):=of_decide_eq_true (by first|(with_reducible assumption)|assumption);have q101:x4_1<(l0.length:Int):=of_decide_eq_true (by first|(with_reducible assumption)|assumption);obtain ⟨ad101,e101,hx101_0⟩:=Kd.ig HR0.1 x4_1 p101 q101;cases e101
      replace hx101_0:=(HB.1.cell (bJ w _ hx101_0)).trans hx101_0;replace p101:=a8 p101;replace q101:=a8 q101;go_wp2_with (first|((with_reducible refine aM (b:= .append) (xs:=#[.tmp 11, .tmp 16]) rfl ?_);at_builtin;refine Kd.cG (Kd.int .u8) (w0:=w) w.heap.size rfl (.tmp 11) (.tmp 16) 32 5 (.int .u8 0) 1 rfl Tryz.underlying32 ff rfl (by decide) (by omega) u3 x3_1 (rd l0 x4_1) [.int .u8 (rd l0 x4_1)] (fun _=>True) (fun _=>False) rfl rfl ?aP (fun _ hk=>hk.elim) ?aF ?aO ?aB ?aS ?aL ?_;(case aP=>exact rfl);(case aB=>exact (by repeat (first|(with_reducible first|exact HB.1|apply ah|apply ai|apply ay)|exact HB.1)));(case aF=>exact (fun _ _=>trivial));(case aO=>exact (by (with_reducible repeat (first|apply Kd.cM|apply Kd.cQ|apply Kd.dc));exact HO_3.1));(case aS=>exact (cP (by repeat (first|(with_reducible first|exact HB.1|apply ah|apply ai|apply ay)|exact HB.1))));(case aL=>have:=LMc4.1;omega);intro v103 w5 ho hb hg hat;rw [←Ny102.1] at ho;have n0_:=aa (hb);have n1_:=aa (ho);clear HB;clear HO_3;have HB:=n0_;have HO104:=n1_;clear n0_ n1_;clear ho hb hg hat));go_roundg k1
      case measure=>have:=HK1.1;omega
      case rel=>exact ⟨(y102),(wrap64 (x4_1+1)),(by first|rfl|(simp;done)|(simp [*];done)),H',⟨by have:=HK1.1;omega⟩,⟨by (with_reducible repeat (first|apply Kd.cM|apply Kd.cQ|apply Kd.dc));exact HO104.1⟩,⟨by repeat (first|(with_reducible first|exact HB.1|apply ah|apply ai|apply ay)|exact HB.1)⟩⟩
     ·rw [if_neg c4] at H;exact absurd H (by simp)
    ·rw [if_neg c3] at H;exact absurd H (by simp)
   ·rw [if_neg c2] at H;have c2b0:decide (x4_1<(l0.length:Int))=false:=decide_eq_false c2;clear c2;obtain rfl:=ar H;go_wp2;go_ret;exact ⟨_,by first|rfl|(simp [bO,bN]<;>rfl)|(simp [*,bO,bN]<;>rfl),by (with_reducible repeat (first|apply Kd.cM|apply Kd.cQ|apply Kd.dc));exact HO_3.1,by repeat (first|(with_reducible first|exact HB.1|apply ah|apply ai|apply ay)|exact HB.1)⟩
def bV.l0:Nat→List (iA)→List (iA)→Int→Option ((List (iA)))
 | 0,_,_,_=>none
 | k+1,x0,x3,x4=>if x4<(x0.length:Int) then (if 0≤x4 then ((bT.f k ((cF x0 x4).f1)).bind fun t106=>(if x3.length<4398046511104 then (bV.l0 k x0 (x3++[(⟨(cF x0 x4).f0,t106⟩:iA)]) (wrap64 (x4+1))) else (none))) else (none)) else (some x3)
def bV.f (k:Nat) (l0:List (iA)):Option ((List (iA))):=bV.l0 k l0 ([]:List (iA)) 0
theorem bV.calls (k:Nat) (A0:Option Addr) (c0:Nat) (l0:List (iA)) (r:List (iA)) (w:World) (hr0:Kd.C Ee w A0 l0.length l0) (hc0:l0.length≤c0) (h:bV.f k l0=some r) :
 Calls Tryz.prog 21 #[.slice A0 l0.length c0] w fun e w'=>∃v0_:Value,e = .returned (v0_)∧Kd.S Ee 59 w' w.heap.size (fun _=>True) v0_ r∧Below w.heap.size w w':=by
 have hu59:=Tryz.underlying59;have HR0:=aa hr0;have HC0:=aa hc0;clear hr0 hc0;have HB:=aa (Below.refl w.heap.size w);have H:(bV.l0 k l0 ([]:List (iA)) 0)=some r:=h;clear h;have H':=aa H;clear H;go_in;go_wp2;go_loopg [3,4] k (fun kq v3 v4 w'=>∃(x3_1:List (iA)) (x4_1:Int),v4 = .int .i64 x4_1∧af (bV.l0 kq l0 x3_1 x4_1=some r)∧af (kq≤k)∧af (Kd.S Ee 59 w' w.heap.size (fun _=>True) v3 x3_1)∧af (Below w.heap.size w w'))
 case atStart=>exact ⟨(([]:List (iA))),(0),(by first|rfl|(simp;done)|(simp [*];done)),H',⟨Nat.le_refl _⟩,⟨by first|exact Kd.sV _ _ _ _ _|exact Kd.sw _ _ _ _ _|exact Kd.sZ _ _ _ _ _|exact Kd.sD _ _ _ _ _|exact Kd.cY _ _ _ _ _⟩,⟨by repeat (first|(with_reducible first|exact HB.1|apply ah|apply ai|apply ay)|exact HB.1)⟩⟩
 case round=>
  clear H';obtain ⟨x3_1,x4_1,rfl,HA,HK1,HO_3,HB⟩:=hrel;cases gk with
  | zero=>exact absurd HA.1 (by simp [bV.l0])
  | succ k1=>
   have H:=HA.1;clear HA;simp only [bV.l0] at H;by_cases c2:x4_1<(l0.length:Int)
   ·rw [if_pos c2] at H;have c2b0:decide (x4_1<(l0.length:Int))=true:=decide_eq_true c2;clear c2;by_cases c3:0≤x4_1
    ·rw [if_pos c3] at H;have c3b0:decide (0≤x4_1)=true:=decide_eq_true c3;clear c3;replace H:=Option.bind_eq_some_iff.mp H;obtain ⟨t106,A40,H⟩:=H;replace H:(if x3_1.length<4398046511104 then (bV.l0 k1 l0 (x3_1++[(⟨(cF l0 x4_1).f0,t106⟩:iA)]) (wrap64 (x4_1+1))) else (none))=some r:=H;have A4:=aa A40;clear A40;by_cases c5:x3_1.length<4398046511104
     ·rw [if_pos c5] at H;have LMc5:=aa c5;clear c5;obtain ⟨y110,hy110⟩:∃y_:List (iA),y_=(x3_1++[(⟨(cF l0 x4_1).f0,t106⟩:iA)]):=⟨_,rfl⟩;replace H:(bV.l0 k1 l0 y110 (wrap64 (x4_1+1)))=some r:=by first|(rw [hy110];with_reducible exact H)|(have H2_:=(aj _ _).symm.trans H;rw [hy110];with_reducible exact H2_)|(have H2_:=(aj _ _).symm.trans H;with_reducible exact H2_)|with_reducible exact H|(rw [hy110];exact H)|exact H
      have Ny110:=aa hy110;clear hy110;have H':=aa H;clear H;have p105:0≤(x4_1:Int):=of_decide_eq_true (by first|(with_reducible assumption)|assumption);have q105:x4_1<(l0.length:Int):=of_decide_eq_true (by first|(with_reducible assumption)|assumption);obtain ⟨ad105,A105_1,c105_1,e105,hx105_0,hx105_1,hl105_1,hi105_1⟩:=iG HR0.1 x4_1 p105 q105;cases e105
      replace hx105_0:=(HB.1.cell (bJ w _ hx105_0)).trans hx105_0;replace hx105_1:=(HB.1.cell (bJ w _ hx105_1)).trans hx105_1;have HR105_1:=aa hi105_1;have HC105_1:=aa hl105_1;clear hi105_1 hl105_1;replace p105:=a8 p105;replace q105:=a8 q105;go_wp2_with (first|((with_reducible refine dB (f:=14) rfl ?_);refine gW (some 17) rfl rfl Tryz.func14 (by kernel_rfl) rfl #[.slice A105_1 ((cF l0 x4_1).f1).length c105_1] rfl (by (try simp only [List.map_toArray,List.map_cons,List.map_nil]);first|done|rfl|(simp only [List.length_drop,List.length_take];rfl)) ?_;(with_reducible refine (bT.calls k1 _ _ ((cF l0 x4_1).f1) t106 _ ?side1 ?side2 A4.1).mono ?_);(case side1=>repeat (first|exact (Kd.aN HR105_1.1 HB.1)|(with_reducible refine Kd.eU ?_ _)|(with_reducible refine Kd.dZ ?_ _)|(with_reducible refine Kd.jU ?_)));(case side2=>exact HC105_1.1);rintro e w6 ⟨v107,rfl,ho0,hb⟩;refine ⟨_,rfl,?_⟩;have n0_:=aa (Kd.vT (by (with_reducible repeat (first|apply Kd.mZ|apply Kd.nj|apply Kd.pB));exact HO_3.1) (Kd.ri ho0) hb);have n1_:=aa (Kd.cI ho0 (cP (by repeat (first|(with_reducible first|exact HB.1|apply ah|apply ai|apply ay)|exact HB.1))));have n2_:=aa (fO (by repeat (first|(with_reducible first|exact HB.1|apply ah|apply ai|apply ay)|exact HB.1)) hb);clear HO_3;clear HB;have HO_3:=n0_;have HO108:=n1_;have HB:=n2_;clear n0_ n1_ n2_;(try clear hb);(try clear hb2);(try clear hk);(try clear hi);(try clear ho0);have p109:0≤(x4_1:Int):=of_decide_eq_true (by first|(with_reducible assumption)|assumption);have q109:x4_1<(l0.length:Int):=of_decide_eq_true (by first|(with_reducible assumption)|assumption);obtain ⟨ad109,A109_1,c109_1,e109,hx109_0,hx109_1,hl109_1,hi109_1⟩:=iG HR0.1 x4_1 p109 q109;obtain rfl:ad105=ad109:=(by injection e109);replace hx109_0:=(HB.1.cell (bJ w _ hx109_0)).trans hx109_0;replace hx109_1:=(HB.1.cell (bJ w _ hx109_1)).trans hx109_1;have HR109_1:=aa hi109_1;have HC109_1:=aa hl109_1;clear hi109_1 hl109_1;replace p109:=a8 p109;replace q109:=a8 q109;obtain ⟨Ao7,co7,eo7⟩:=Kd.aG HO108.1;subst eo7)|((with_reducible refine aM (b:= .append) (xs:=#[.tmp 18, .tmp 26]) rfl ?_);at_builtin;refine Kd.vZ Ee (w0:=w) w.heap.size rfl (.tmp 18) (.tmp 26) 24 59 (.agg #[(.int .u64 0),(.slice none 0 0)]) 32 rfl Tryz.underlying24 lE rfl (by decide) (by omega) u3 x3_1 (⟨(cF l0 x4_1).f0,t106⟩:iA) [.int .u64 ((cF l0 x4_1).f0), .slice Ao7 t106.length co7] (fun _=>True) (fun k_=>some k_=(.slice Ao7 t106.length co7:Value).ownBlock) rfl rfl ?aP (fun k_ hk_=>((Kd.bZ (ok':=fun k_=>((fun _=>True)) k_∧some k_≠(u3:Value).ownBlock) (Kd.qw (HO108.1) (Kd.sP HO_3.1) (by decide)) (fun k_ hk=>⟨trivial,hk.2⟩))).1 k_ hk_.symm) ?aF ?aO ?aB ?aS ?aL ?_;(case aP=>exact kT _ _ _ (⟨(cF l0 x4_1).f0,t106⟩:iA) (Kd.bZ (Kd.pq rfl (Kd.bZ (ok':=fun k_=>((fun _=>True)) k_∧some k_≠(u3:Value).ownBlock) (Kd.qw (HO108.1) (Kd.sP HO_3.1) (by decide)) (fun k_ hk=>⟨trivial,hk.2⟩))) (fun _ h_=>h_)));(case aB=>exact (by repeat (first|(with_reducible first|exact HB.1|apply ah|apply ai|apply ay)|exact HB.1)));(case aF=>exact (fun _ _=>trivial));(case aO=>exact (by (with_reducible repeat (first|apply Kd.mZ|apply Kd.nj|apply Kd.pB));exact Kd.wU HO_3.1 (fun k_ hk=>⟨trivial,fun e_=>hk.2 e_⟩)));(case aS=>exact (cP (by repeat (first|(with_reducible first|exact HB.1|apply ah|apply ai|apply ay)|exact HB.1))));(case aL=>have:=LMc5.1;omega);intro v111 w8 ho hb hg hat;rw [←Ny110.1] at ho;have n0_:=aa (hb);have n1_:=aa (ho);clear HB;clear HO_3;clear HO108;have HB:=n0_;have HO112:=n1_;clear n0_ n1_;clear ho hb hg hat));go_roundg k1
      case measure=>have:=HK1.1;omega
      case rel=>exact ⟨(y110),(wrap64 (x4_1+1)),(by first|rfl|(simp;done)|(simp [*];done)),H',⟨by have:=HK1.1;omega⟩,⟨by (with_reducible repeat (first|apply Kd.mZ|apply Kd.nj|apply Kd.pB));exact HO112.1⟩,⟨by repeat (first|(with_reducible first|exact HB.1|apply ah|apply ai|apply ay)|exact HB.1)⟩⟩
     ·rw [if_neg c5] at H;exact absurd H (by simp)
    ·rw [if_neg c3] at H;exact absurd H (by simp)
   ·rw [if_neg c2] at H;have c2b0:decide (x4_1<(l0.length:Int))=false:=decide_eq_false c2;clear c2;obtain rfl:=ar H;go_wp2;go_ret;exact ⟨_,by first|rfl|(simp [bO,bN]<;>rfl)|(simp [*,bO,bN]<;>rfl),by (with_reducible repeat (first|apply Kd.mZ|apply Kd.nj|apply Kd.pB));exact HO_3.1,by repeat (first|(with_reducible first|exact HB.1|apply ah|apply ai|apply ay)|exact HB.1)⟩
def cj.l0:Nat→List Int→List Int→Int→Option (List Int)
 | 0,_,_,_=>none
 | k+1,x0,x3,x4=>if x4<(x0.length:Int) then (if 0≤x4 then (if x3.length<140737488355328 then (cj.l0 k x0 (x3++[rd x0 x4]) (wrap64 (x4+1))) else (none)) else (none)) else (some x3)
def cj.f (k:Nat) (l0:List Int):Option (List Int):=cj.l0 k l0 ([]:List Int) 0
theorem cj.calls (k:Nat) (A0:Option Addr) (c0:Nat) (l0:List Int) (r:List Int) (w:World) (hr0:Kd.C (Kd.int .u8) w A0 l0.length l0) (hc0:l0.length≤c0) (h:cj.f k l0=some r) :
 Calls Tryz.prog 66 #[.slice A0 l0.length c0] w fun e w'=>∃v0_:Value,e = .returned (v0_)∧Kd.R (Kd.int .u8) 5 w' w.heap.size (fun _=>True) v0_ r∧Below w.heap.size w w':=by
 have HR0:=aa hr0;have HC0:=aa hc0;clear hr0 hc0;have HB:=aa (Below.refl w.heap.size w);have H:(cj.l0 k l0 ([]:List Int) 0)=some r:=h;clear h;have H':=aa H;clear H;go_in;go_wp2;go_loopg [3,4] k (fun kq v3 v4 w'=>∃(x3_1:List Int) (x4_1:Int),v4 = .int .i64 x4_1∧af (cj.l0 kq l0 x3_1 x4_1=some r)∧af (kq≤k)∧af (Kd.R (Kd.int .u8) 5 w' w.heap.size (fun _=>True) v3 x3_1)∧af (Below w.heap.size w w'))
 case atStart=>exact ⟨(([]:List Int)),(0),(by first|rfl|(simp;done)|(simp [*];done)),H',⟨Nat.le_refl _⟩,⟨by first|exact Kd.cY _ _ _ _ _|exact Kd.sw _ _ _ _ _|exact Kd.sZ _ _ _ _ _|exact Kd.sD _ _ _ _ _|exact Kd.sV _ _ _ _ _⟩,⟨by repeat (first|(with_reducible first|exact HB.1|apply ah|apply ai|apply ay)|exact HB.1)⟩⟩
 case round=>
  clear H';obtain ⟨x3_1,x4_1,rfl,HA,HK1,HO_3,HB⟩:=hrel;cases gk with
  | zero=>exact absurd HA.1 (by simp [cj.l0])
  | succ k1=>
   have H:=HA.1;clear HA;simp only [cj.l0] at H;by_cases c2:x4_1<(l0.length:Int)
   ·rw [if_pos c2] at H;have c2b0:decide (x4_1<(l0.length:Int))=true:=decide_eq_true c2;clear c2;by_cases c3:0≤x4_1
    ·rw [if_pos c3] at H;have c3b0:decide (0≤x4_1)=true:=decide_eq_true c3;clear c3;by_cases c4:x3_1.length<140737488355328
     ·rw [if_pos c4] at H;have LMc4:=aa c4;clear c4;obtain ⟨y114,hy114⟩:∃y_:List Int,y_=(x3_1++[rd l0 x4_1]):=⟨_,rfl⟩;replace H:(cj.l0 k1 l0 y114 (wrap64 (x4_1+1)))=some r:=by first|(rw [hy114];with_reducible exact H)|(have H2_:=(aj _ _).symm.trans H;rw [hy114];with_reducible exact H2_)|(have H2_:=(aj _ _).symm.trans H;with_reducible exact H2_)|with_reducible exact H|(rw [hy114];exact H)|exact H
      have Ny114:=aa hy114;clear hy114;have H':=aa H;clear H;have p113:0≤(x4_1:Int):=of_decide_eq_true (by first|(with_reducible assumption)|assumption);have q113:x4_1<(l0.length:Int):=of_decide_eq_true (by first|(with_reducible assumption)|assumption);obtain ⟨ad113,e113,hx113_0⟩:=Kd.ig HR0.1 x4_1 p113 q113;cases e113
      replace hx113_0:=(HB.1.cell (bJ w _ hx113_0)).trans hx113_0;replace p113:=a8 p113;replace q113:=a8 q113;go_wp2_with (first|((with_reducible refine aM (b:= .append) (xs:=#[.tmp 11, .tmp 16]) rfl ?_);at_builtin;refine Kd.cG (Kd.int .u8) (w0:=w) w.heap.size rfl (.tmp 11) (.tmp 16) 32 5 (.int .u8 0) 1 rfl Tryz.underlying32 ff rfl (by decide) (by omega) u3 x3_1 (rd l0 x4_1) [.int .u8 (rd l0 x4_1)] (fun _=>True) (fun _=>False) rfl rfl ?aP (fun _ hk=>hk.elim) ?aF ?aO ?aB ?aS ?aL ?_;(case aP=>exact rfl);(case aB=>exact (by repeat (first|(with_reducible first|exact HB.1|apply ah|apply ai|apply ay)|exact HB.1)));(case aF=>exact (fun _ _=>trivial));(case aO=>exact (by (with_reducible repeat (first|apply Kd.cM|apply Kd.cQ|apply Kd.dc));exact HO_3.1));(case aS=>exact (cP (by repeat (first|(with_reducible first|exact HB.1|apply ah|apply ai|apply ay)|exact HB.1))));(case aL=>have:=LMc4.1;omega);intro v115 w5 ho hb hg hat;rw [←Ny114.1] at ho;have n0_:=aa (hb);have n1_:=aa (ho);clear HB;clear HO_3;have HB:=n0_;have HO116:=n1_;clear n0_ n1_;clear ho hb hg hat));go_roundg k1
      case measure=>have:=HK1.1;omega
      case rel=>exact ⟨(y114),(wrap64 (x4_1+1)),(by first|rfl|(simp;done)|(simp [*];done)),H',⟨by have:=HK1.1;omega⟩,⟨by (with_reducible repeat (first|apply Kd.cM|apply Kd.cQ|apply Kd.dc));exact HO116.1⟩,⟨by repeat (first|(with_reducible first|exact HB.1|apply ah|apply ai|apply ay)|exact HB.1)⟩⟩
     ·rw [if_neg c4] at H;exact absurd H (by simp)
    ·rw [if_neg c3] at H;exact absurd H (by simp)
   ·rw [if_neg c2] at H;have c2b0:decide (x4_1<(l0.length:Int))=false:=decide_eq_false c2;clear c2;obtain rfl:=ar H;go_wp2;go_ret;exact ⟨_,by first|rfl|(simp [bO,bN]<;>rfl)|(simp [*,bO,bN]<;>rfl),by (with_reducible repeat (first|apply Kd.cM|apply Kd.cQ|apply Kd.dc));exact HO_3.1,by repeat (first|(with_reducible first|exact HB.1|apply ah|apply ai|apply ay)|exact HB.1)⟩
def fS.f (a0:Int):Option (Bool):=if a0≥1 then (some (decide (a0≤8192))) else (some false)
theorem fS.calls (a0:Int) (r:Bool) (w:World) (h:fS.f a0=some r) :
 Calls Tryz.prog 100 #[.int .i64 a0] w fun e w'=>e = .returned (.bool r)∧av w w':=by
 have H:(if a0≥1 then (some (decide (a0≤8192))) else (some false))=some r:=h;clear h;by_cases c2:a0≥1
 ·rw [if_pos c2] at H;have c2b0:decide (1≤a0)=true:=decide_eq_true c2;clear c2;obtain rfl:=ar H;go_in;go_wp2;go_ret;exact ⟨by first|rfl|(simp;done)|(simp [*];done),by repeat (first|exact av.refl _|apply av.step)⟩
 ·rw [if_neg c2] at H;have c2b0:decide (1≤a0)=false:=decide_eq_false c2;clear c2;obtain rfl:=ar H;go_in;go_wp2;go_ret;exact ⟨by first|rfl|(simp;done)|(simp [*];done),by repeat (first|exact av.refl _|apply av.step)⟩
def ix.f (a0:Int):Option (Bool):=some (decide (a0<16))
theorem ix.calls (a0:Int) (r:Bool) (w:World) (h:ix.f a0=some r) :
 Calls Tryz.prog 132 #[.int .u8 a0] w fun e w'=>e = .returned (.bool r)∧av w w':=by
 have H:(some (decide (a0<16)))=some r:=h;clear h;obtain rfl:=ar H;go_in;go_wp2;go_ret;exact ⟨by first|rfl|(simp;done)|(simp [*];done),by repeat (first|exact av.refl _|apply av.step)⟩
def gJ.f (a0:Int) (a1:Int) (a2:Int) (a3:Int):Option (Bool):=if a1≥1 then (if a1≤16 then (if (wrap64 (a0))<a1 then (if a2≥1 then (if a2≤16 then (if a3≥1 then (some (decide (a3≤a2))) else (some false)) else (some false)) else (some false)) else (some false)) else (some false)) else (some false)
theorem gJ.calls (a0:Int) (a1:Int) (a2:Int) (a3:Int) (r:Bool) (w:World) (h:gJ.f a0 a1 a2 a3=some r) :
 Calls Tryz.prog 126 #[.int .u8 a0, .int .i64 a1, .int .i64 a2, .int .i64 a3] w fun e w'=>e = .returned (.bool r)∧av w w':=by
 have H:(if a1≥1 then (if a1≤16 then (if (wrap64 (a0))<a1 then (if a2≥1 then (if a2≤16 then (if a3≥1 then (some (decide (a3≤a2))) else (some false)) else (some false)) else (some false)) else (some false)) else (some false)) else (some false))=some r:=h;clear h;by_cases c5:a1≥1
 ·rw [if_pos c5] at H;have c5b0:decide (1≤a1)=true:=decide_eq_true c5;clear c5;by_cases c6:a1≤16
  ·rw [if_pos c6] at H;have c6b0:decide (a1≤16)=true:=decide_eq_true c6;clear c6;by_cases c7:(wrap64 (a0))<a1
   ·rw [if_pos c7] at H;have c7b0:decide ((wrap64 (a0))<a1)=true:=decide_eq_true c7;clear c7;by_cases c8:a2≥1
    ·rw [if_pos c8] at H;have c8b0:decide (1≤a2)=true:=decide_eq_true c8;clear c8;by_cases c9:a2≤16
     ·rw [if_pos c9] at H;have c9b0:decide (a2≤16)=true:=decide_eq_true c9;clear c9;by_cases mO:a3≥1
      ·rw [if_pos mO] at H;have c10b0:decide (1≤a3)=true:=decide_eq_true mO;clear mO;obtain rfl:=ar H;go_in;go_wp2;go_ret;exact ⟨by first|rfl|(simp;done)|(simp [*];done),by repeat (first|exact av.refl _|apply av.step)⟩
      ·rw [if_neg mO] at H;have c10b0:decide (1≤a3)=false:=decide_eq_false mO;clear mO;obtain rfl:=ar H;go_in;go_wp2;go_ret;exact ⟨by first|rfl|(simp;done)|(simp [*];done),by repeat (first|exact av.refl _|apply av.step)⟩
     ·rw [if_neg c9] at H;have c9b0:decide (a2≤16)=false:=decide_eq_false c9;clear c9;obtain rfl:=ar H;go_in;go_wp2;go_ret;exact ⟨by first|rfl|(simp;done)|(simp [*];done),by repeat (first|exact av.refl _|apply av.step)⟩
    ·rw [if_neg c8] at H;have c8b0:decide (1≤a2)=false:=decide_eq_false c8;clear c8;obtain rfl:=ar H;go_in;go_wp2;go_ret;exact ⟨by first|rfl|(simp;done)|(simp [*];done),by repeat (first|exact av.refl _|apply av.step)⟩
   ·rw [if_neg c7] at H;have c7b0:decide ((wrap64 (a0))<a1)=false:=decide_eq_false c7;clear c7;obtain rfl:=ar H;go_in;go_wp2;go_ret;exact ⟨by first|rfl|(simp;done)|(simp [*];done),by repeat (first|exact av.refl _|apply av.step)⟩
  ·rw [if_neg c6] at H;have c6b0:decide (a1≤16)=false:=decide_eq_false c6;clear c6;obtain rfl:=ar H;go_in;go_wp2;go_ret;exact ⟨by first|rfl|(simp;done)|(simp [*];done),by repeat (first|exact av.refl _|apply av.step)⟩
 ·rw [if_neg c5] at H;have c5b0:decide (1≤a1)=false:=decide_eq_false c5;clear c5;obtain rfl:=ar H;go_in;go_wp2;go_ret;exact ⟨by first|rfl|(simp;done)|(simp [*];done),by repeat (first|exact av.refl _|apply av.step)⟩
def ji.f (a0_0:Int) (a0_1:Int) (l0_2:List (List Int)) (a0_3:Int) (a0_4:Int) (l0_5:List (jE)):Option (Bool):=if (Go.bits .or .u64 (Go.bits .or .u64 (Go.bits .or .u64 a0_0 a0_1) a0_3) a0_4)=0 then (if (l0_2.length:Int)=0 then (some ((l0_5.length:Int) == 0)) else (some false)) else (some false)
theorem ji.calls (a0_0:Int) (a0_1:Int) (A0_2:Option Addr) (c0_2:Nat) (l0_2:List (List Int)) (a0_3:Int) (a0_4:Int) (A0_5:Option Addr) (c0_5:Nat) (l0_5:List (jE)) (r:Bool) (w:World) (hr0_2:Kd.C (Kd.slice 5 (Kd.int .u8)) w A0_2 l0_2.length l0_2) (hc0_2:l0_2.length≤c0_2) (hr0_5:Kd.C jC w A0_5 l0_5.length l0_5) (hc0_5:l0_5.length≤c0_5) (h:ji.f a0_0 a0_1 l0_2 a0_3 a0_4 l0_5=some r) :
 Calls Tryz.prog 94 #[.agg #[.int .u64 a0_0, .int .u64 a0_1, .slice A0_2 l0_2.length c0_2, .int .u64 a0_3, .int .u64 a0_4, .slice A0_5 l0_5.length c0_5]] w fun e w'=>e = .returned (.bool r)∧Below w.heap.size w w':=by
 have hu68:=Tryz.underlying68;have HR0_2:=aa hr0_2;have HC0_2:=aa hc0_2;clear hr0_2 hc0_2;have HR0_5:=aa hr0_5;have HC0_5:=aa hc0_5;clear hr0_5 hc0_5;have HB:=aa (Below.refl w.heap.size w);have H:(if (Go.bits .or .u64 (Go.bits .or .u64 (Go.bits .or .u64 a0_0 a0_1) a0_3) a0_4)=0 then (if (l0_2.length:Int)=0 then (some ((l0_5.length:Int) == 0)) else (some false)) else (some false))=some r:=h;clear h;by_cases c2:(Go.bits .or .u64 (Go.bits .or .u64 (Go.bits .or .u64 a0_0 a0_1) a0_3) a0_4)=0
 ·rw [if_pos c2] at H;have c2b0:((Go.bits .or .u64 (Go.bits .or .u64 (Go.bits .or .u64 a0_0 a0_1) a0_3) a0_4) == 0)=true:=gw.mpr c2;have c2b1:((Go.bits .or .u64 (Go.bits .or .u64 (Go.bits .or .u64 a0_0 a0_1) a0_3) a0_4) != 0)=false:=ci.mpr c2;clear c2;by_cases c3:(l0_2.length:Int)=0
  ·rw [if_pos c3] at H;have c3b0:((l0_2.length:Int) == 0)=true:=gw.mpr c3;have c3b1:((l0_2.length:Int) != 0)=false:=ci.mpr c3;clear c3;obtain rfl:=ar H;go_in;go_wp2_with (first|((with_reducible refine az (N:=1) rfl ?_);(try (refine lu (by rfl) ?_;dsimp only));refine mz ?hg (N:=1) ?hd (cs:=#[.int .u64 a0_0, .int .u64 a0_1, .slice A0_2 l0_2.length c0_2, .int .u64 a0_3, .int .u64 a0_4, .slice A0_5 l0_5.length c0_5]) (t:=68) ?hr ?_;(case hd=>rfl);(case hg=>rfl);(case hr=>first|(go_simp;done)|(go_simp;rfl));intro gb172 hg w4 hbox hb;have n0_:=aa (fO (by repeat (first|(with_reducible first|exact HB.1|apply ah|apply ai|apply ay)|exact HB.1)) hb);have n1_:=aa (hbox);have n2_:=aa ((by rw [hg];exact (cP (by repeat (first|(with_reducible first|exact HB.1|apply ah|apply ai|apply ay)|exact HB.1))):w.heap.size≤gb172));have n3_:=aa ((by rw [hg];exact (cP (by repeat (first|(with_reducible first|exact HB.1|apply ah|apply ai|apply ay)|exact HB.1))):w.heap.size≤gb172));clear HB;have HB:=n0_;have BK172:=n1_;have GW172:=n2_;have GE172:=n3_;clear n0_ n1_ n2_ n3_;clear hb hbox hg;have hcz5_0:w4.cell? ⟨gb172,0,none⟩=some (.int .u64 a0_0):=(ee BK172.1 0).trans rfl;have hcz5_1:w4.cell? ⟨gb172,1,none⟩=some (.int .u64 a0_1):=(ee BK172.1 1).trans rfl;have hcz5_2:w4.cell? ⟨gb172,2,none⟩=some (.slice A0_2 l0_2.length c0_2):=(ee BK172.1 2).trans rfl;have hcz5_3:w4.cell? ⟨gb172,3,none⟩=some (.int .u64 a0_3):=(ee BK172.1 3).trans rfl;have hcz5_4:w4.cell? ⟨gb172,4,none⟩=some (.int .u64 a0_4):=(ee BK172.1 4).trans rfl;have hcz5_5:w4.cell? ⟨gb172,5,none⟩=some (.slice A0_5 l0_5.length c0_5):=(ee BK172.1 5).trans rfl;have hfz5_0:=cU BK172.1 0;have hfz5_1:=cU BK172.1 1;have hfz5_2:=cU BK172.1 2;have hfz5_3:=cU BK172.1 3;have hfz5_4:=cU BK172.1 4;have hfz5_5:=cU BK172.1 5));go_ret;exact ⟨by first|rfl|(simp [bO,bN]<;>rfl)|(simp [*,bO,bN]<;>rfl),by repeat (first|(with_reducible first|exact HB.1|apply ah|apply ai|apply ay|refine kR ?_ GE172.1)|exact HB.1)⟩
  ·rw [if_neg c3] at H;have c3b0:((l0_2.length:Int) == 0)=false:=bi.mpr c3;have c3b1:((l0_2.length:Int) != 0)=true:=mq.mpr c3;have c3b2:¬(l0_2=[]):=fun h_=>c3 (by rw [h_];rfl);obtain rfl:=ar H;go_in;go_wp2_with (first|((with_reducible refine az (N:=1) rfl ?_);(try (refine lu (by rfl) ?_;dsimp only));refine mz ?hg (N:=1) ?hd (cs:=#[.int .u64 a0_0, .int .u64 a0_1, .slice A0_2 l0_2.length c0_2, .int .u64 a0_3, .int .u64 a0_4, .slice A0_5 l0_5.length c0_5]) (t:=68) ?hr ?_;(case hd=>rfl);(case hg=>rfl);(case hr=>first|(go_simp;done)|(go_simp;rfl));intro gb172 hg w6 hbox hb;have n0_:=aa (fO (by repeat (first|(with_reducible first|exact HB.1|apply ah|apply ai|apply ay)|exact HB.1)) hb);have n1_:=aa (hbox);have n2_:=aa ((by rw [hg];exact (cP (by repeat (first|(with_reducible first|exact HB.1|apply ah|apply ai|apply ay)|exact HB.1))):w.heap.size≤gb172));have n3_:=aa ((by rw [hg];exact (cP (by repeat (first|(with_reducible first|exact HB.1|apply ah|apply ai|apply ay)|exact HB.1))):w.heap.size≤gb172));clear HB;have HB:=n0_;have BK172:=n1_;have GW172:=n2_;have GE172:=n3_;clear n0_ n1_ n2_ n3_;clear hb hbox hg;have hcz7_0:w6.cell? ⟨gb172,0,none⟩=some (.int .u64 a0_0):=(ee BK172.1 0).trans rfl;have hcz7_1:w6.cell? ⟨gb172,1,none⟩=some (.int .u64 a0_1):=(ee BK172.1 1).trans rfl;have hcz7_2:w6.cell? ⟨gb172,2,none⟩=some (.slice A0_2 l0_2.length c0_2):=(ee BK172.1 2).trans rfl;have hcz7_3:w6.cell? ⟨gb172,3,none⟩=some (.int .u64 a0_3):=(ee BK172.1 3).trans rfl;have hcz7_4:w6.cell? ⟨gb172,4,none⟩=some (.int .u64 a0_4):=(ee BK172.1 4).trans rfl;have hcz7_5:w6.cell? ⟨gb172,5,none⟩=some (.slice A0_5 l0_5.length c0_5):=(ee BK172.1 5).trans rfl;have hfz7_0:=cU BK172.1 0;have hfz7_1:=cU BK172.1 1;have hfz7_2:=cU BK172.1 2;have hfz7_3:=cU BK172.1 3;have hfz7_4:=cU BK172.1 4;have hfz7_5:=cU BK172.1 5));go_ret;exact ⟨by first|rfl|(simp [bO,bN]<;>rfl)|(simp [*,bO,bN]<;>rfl),by repeat (first|(with_reducible first|exact HB.1|apply ah|apply ai|apply ay|refine kR ?_ GE172.1)|exact HB.1)⟩
 ·rw [if_neg c2] at H;have c2b0:((Go.bits .or .u64 (Go.bits .or .u64 (Go.bits .or .u64 a0_0 a0_1) a0_3) a0_4) == 0)=false:=bi.mpr c2;have c2b1:((Go.bits .or .u64 (Go.bits .or .u64 (Go.bits .or .u64 a0_0 a0_1) a0_3) a0_4) != 0)=true:=mq.mpr c2;obtain rfl:=ar H;go_in;go_wp2_with (first|((with_reducible refine az (N:=1) rfl ?_);(try (refine lu (by rfl) ?_;dsimp only));refine mz ?hg (N:=1) ?hd (cs:=#[.int .u64 a0_0, .int .u64 a0_1, .slice A0_2 l0_2.length c0_2, .int .u64 a0_3, .int .u64 a0_4, .slice A0_5 l0_5.length c0_5]) (t:=68) ?hr ?_;(case hd=>rfl);(case hg=>rfl);(case hr=>first|(go_simp;done)|(go_simp;rfl));intro gb172 hg w8 hbox hb;have n0_:=aa (fO (by repeat (first|(with_reducible first|exact HB.1|apply ah|apply ai|apply ay)|exact HB.1)) hb);have n1_:=aa (hbox);have n2_:=aa ((by rw [hg];exact (cP (by repeat (first|(with_reducible first|exact HB.1|apply ah|apply ai|apply ay)|exact HB.1))):w.heap.size≤gb172));have n3_:=aa ((by rw [hg];exact (cP (by repeat (first|(with_reducible first|exact HB.1|apply ah|apply ai|apply ay)|exact HB.1))):w.heap.size≤gb172));clear HB;have HB:=n0_;have BK172:=n1_;have GW172:=n2_;have GE172:=n3_;clear n0_ n1_ n2_ n3_;clear hb hbox hg;have hcz9_0:w8.cell? ⟨gb172,0,none⟩=some (.int .u64 a0_0):=(ee BK172.1 0).trans rfl;have hcz9_1:w8.cell? ⟨gb172,1,none⟩=some (.int .u64 a0_1):=(ee BK172.1 1).trans rfl;have hcz9_2:w8.cell? ⟨gb172,2,none⟩=some (.slice A0_2 l0_2.length c0_2):=(ee BK172.1 2).trans rfl;have hcz9_3:w8.cell? ⟨gb172,3,none⟩=some (.int .u64 a0_3):=(ee BK172.1 3).trans rfl;have hcz9_4:w8.cell? ⟨gb172,4,none⟩=some (.int .u64 a0_4):=(ee BK172.1 4).trans rfl;have hcz9_5:w8.cell? ⟨gb172,5,none⟩=some (.slice A0_5 l0_5.length c0_5):=(ee BK172.1 5).trans rfl;have hfz9_0:=cU BK172.1 0;have hfz9_1:=cU BK172.1 1;have hfz9_2:=cU BK172.1 2;have hfz9_3:=cU BK172.1 3;have hfz9_4:=cU BK172.1 4;have hfz9_5:=cU BK172.1 5));go_ret;exact ⟨by first|rfl|(simp [bO,bN]<;>rfl)|(simp [*,bO,bN]<;>rfl),by repeat (first|(with_reducible first|exact HB.1|apply ah|apply ai|apply ay|refine kR ?_ GE172.1)|exact HB.1)⟩
def dj.l0:Nat→Int→Int→Option (Int)
 | 0,_,_=>none
 | k+1,x3,x7=>if x7<8 then (if (Go.bits .and .u32 x3 1)=1 then (dj.l0 k (Go.bits .xor .u32 (x3 / 2) 2197175160) (wrap64 (x7+1))) else (dj.l0 k (x3 / 2) (wrap64 (x7+1)))) else (some x3)
def dj.f (k:Nat) (a0:Int):Option (Int):=dj.l0 k ((a0) % 4294967296) 0
theorem dj.calls (k:Nat) (a0:Int) (r:Int) (w:World) (h:dj.f k a0=some r) :
 Calls Tryz.prog 118 #[.int .u8 a0] w fun e w'=>e = .returned (.int .u32 r)∧av w w':=by
 have H:(dj.l0 k ((a0) % 4294967296) 0)=some r:=h;clear h;have H':=aa H;clear H;go_in;go_wp2;go_loopg [3,7] k (fun kq v3 v7 w'=>∃(x3_1:Int) (x7_1:Int),v3 = .int .u32 x3_1∧v7 = .int .i64 x7_1∧af (dj.l0 kq x3_1 x7_1=some r)∧af (kq≤k)∧av w w')
 case atStart=>exact ⟨((a0) % 4294967296),(0),(by first|rfl|(simp;done)|(simp [*];done)),(by first|rfl|(simp;done)|(simp [*];done)),H',⟨Nat.le_refl _⟩,by repeat (first|exact av.refl _|apply av.step)⟩
 case round=>
  clear H';try clear c1
  obtain ⟨x3_1,x7_1,rfl,rfl,HA,HK1,⟨m1,rfl⟩⟩:=hrel;cases gk with
  | zero=>exact absurd HA.1 (by simp [dj.l0])
  | succ k1=>
   have H:=HA.1;clear HA;simp only [dj.l0] at H;by_cases c2:x7_1<8
   ·rw [if_pos c2] at H;have c2b0:decide (x7_1<8)=true:=decide_eq_true c2;clear c2;by_cases c3:(Go.bits .and .u32 x3_1 1)=1
    ·rw [if_pos c3] at H;have c3b0:((Go.bits .and .u32 x3_1 1) == 1)=true:=gw.mpr c3;have c3b1:((Go.bits .and .u32 x3_1 1) != 1)=false:=ci.mpr c3;clear c3;have H':=aa H;clear H;go_wp2;go_roundg k1
     case measure=>have:=HK1.1;omega
     case rel=>exact ⟨(Go.bits .xor .u32 (x3_1 / 2) 2197175160),(wrap64 (x7_1+1)),(by first|rfl|(simp;done)|(simp [*];done)),(by first|rfl|(simp;done)|(simp [*];done)),H',⟨by have:=HK1.1;omega⟩,by repeat (first|exact av.refl _|apply av.step)⟩
    ·rw [if_neg c3] at H;have c3b0:((Go.bits .and .u32 x3_1 1) == 1)=false:=bi.mpr c3;have c3b1:((Go.bits .and .u32 x3_1 1) != 1)=true:=mq.mpr c3;have H':=aa H;clear H;go_wp2;go_roundg k1
     case measure=>have:=HK1.1;omega
     case rel=>exact ⟨(x3_1 / 2),(wrap64 (x7_1+1)),(by first|rfl|(simp;done)|(simp [*];done)),(by first|rfl|(simp;done)|(simp [*];done)),H',⟨by have:=HK1.1;omega⟩,by repeat (first|exact av.refl _|apply av.step)⟩
   ·rw [if_neg c2] at H;have c2b0:decide (x7_1<8)=false:=decide_eq_false c2;clear c2;obtain rfl:=ar H;go_wp2;go_ret;exact ⟨by first|rfl|(simp;done)|(simp [*];done),by repeat (first|exact av.refl _|apply av.step)⟩
def bH.f (a0:Int) (a1:Int):Option (Int):=if (IntKind.u64.wrap ((IntKind.u64.wrap (a0*2))+a1))≥4294967296 then (some (Go.bits .xor .u64 (IntKind.u64.wrap ((IntKind.u64.wrap (a0*2))+a1)) 4812730177)) else (some (IntKind.u64.wrap ((IntKind.u64.wrap (a0*2))+a1)))
theorem bH.calls (a0:Int) (a1:Int) (r:Int) (w:World) (h:bH.f a0 a1=some r) :
 Calls Tryz.prog 151 #[.int .u64 a0, .int .u64 a1] w fun e w'=>e = .returned (.int .u64 r)∧av w w':=by
 have H:(if (IntKind.u64.wrap ((IntKind.u64.wrap (a0*2))+a1))≥4294967296 then (some (Go.bits .xor .u64 (IntKind.u64.wrap ((IntKind.u64.wrap (a0*2))+a1)) 4812730177)) else (some (IntKind.u64.wrap ((IntKind.u64.wrap (a0*2))+a1))))=some r:=h;clear h;by_cases c3:(IntKind.u64.wrap ((IntKind.u64.wrap (a0*2))+a1))≥4294967296
 ·rw [if_pos c3] at H;have c3b0:decide (4294967296≤(IntKind.u64.wrap ((IntKind.u64.wrap (a0*2))+a1)))=true:=decide_eq_true c3;clear c3;obtain rfl:=ar H;go_in;go_wp2;go_ret;exact ⟨by first|rfl|(simp;done)|(simp [*];done),by repeat (first|exact av.refl _|apply av.step)⟩
 ·rw [if_neg c3] at H;have c3b0:decide (4294967296≤(IntKind.u64.wrap ((IntKind.u64.wrap (a0*2))+a1)))=false:=decide_eq_false c3;clear c3;obtain rfl:=ar H;go_in;go_wp2;go_ret;exact ⟨by first|rfl|(simp;done)|(simp [*];done),by repeat (first|exact av.refl _|apply av.step)⟩
def bU.l0:Nat→Int→Int→Int→Option (Int)
 | 0,_,_,_=>none
 | k+1,x0,x3,x4=>if x4<32 then (if 0≤x4 then (bU.l0 k x0 (IntKind.u64.wrap ((IntKind.u64.wrap (x3*2))+(Go.bits .and .u64 (shr .u64 x0 x4) 1))) (wrap64 (x4+1))) else (none)) else (some x3)
def bU.f (k:Nat) (a0:Int):Option (Int):=bU.l0 k a0 0 0
theorem bU.calls (k:Nat) (a0:Int) (r:Int) (w:World) (h:bU.f k a0=some r) :
 Calls Tryz.prog 152 #[.int .u64 a0] w fun e w'=>e = .returned (.int .u64 r)∧av w w':=by
 have H:(bU.l0 k a0 0 0)=some r:=h;clear h;have H':=aa H;clear H;go_in;go_wp2;go_loopg [3,4] k (fun kq v3 v4 w'=>∃(x3_1:Int) (x4_1:Int),v3 = .int .u64 x3_1∧v4 = .int .i64 x4_1∧af (bU.l0 kq a0 x3_1 x4_1=some r)∧af (kq≤k)∧av w w')
 case atStart=>exact ⟨(0),(0),(by first|rfl|(simp;done)|(simp [*];done)),(by first|rfl|(simp;done)|(simp [*];done)),H',⟨Nat.le_refl _⟩,by repeat (first|exact av.refl _|apply av.step)⟩
 case round=>
  clear H';try clear c1
  obtain ⟨x3_1,x4_1,rfl,rfl,HA,HK1,⟨m1,rfl⟩⟩:=hrel;cases gk with
  | zero=>exact absurd HA.1 (by simp [bU.l0])
  | succ k1=>
   have H:=HA.1;clear HA;simp only [bU.l0] at H;by_cases c2:x4_1<32
   ·rw [if_pos c2] at H;have c2b0:decide (x4_1<32)=true:=decide_eq_true c2;clear c2;by_cases c3:0≤x4_1
    ·rw [if_pos c3] at H;have c3b0:=a8 c3;have c3b1:decide (0≤x4_1)=true:=decide_eq_true c3;clear c3;obtain ⟨ji4,hji4⟩:∃j_:Int,(shr .u64 a0 x4_1)=j_:=⟨_,rfl⟩;replace H:(bU.l0 k1 a0 (IntKind.u64.wrap ((IntKind.u64.wrap (x3_1*2))+(Go.bits .and .u64 (ji4) 1))) (wrap64 (x4_1+1)))=some r:=by first|(rw [hji4] at H;exact H)|(simp only [hji4] at H ⊢;exact H)
     have hji4_:(a0 / 2 ^ min x4_1.toNat 64)=ji4:=hji4;have hji4z:x4_1≤64→(a0 / 2 ^ x4_1.toNat)=ji4:=iZ hji4;have H':=aa H;clear H;go_wp2;go_roundg k1
     case measure=>have:=HK1.1;omega
     case rel=>exact ⟨(IntKind.u64.wrap ((IntKind.u64.wrap (x3_1*2))+(Go.bits .and .u64 (ji4) 1))),(wrap64 (x4_1+1)),(by first|rfl|(simp;done)|(simp only [←hji4]<;>(first|rfl|simp))|(simp [*];done)),(by first|rfl|(simp;done)|(simp [*];done)),H',⟨by have:=HK1.1;omega⟩,by repeat (first|exact av.refl _|apply av.step)⟩
    ·rw [if_neg c3] at H;exact absurd H (by simp)
   ·rw [if_neg c2] at H;have c2b0:decide (x4_1<32)=false:=decide_eq_false c2;clear c2;obtain rfl:=ar H;go_wp2;go_ret;exact ⟨by first|rfl|(simp;done)|(simp [*];done),by repeat (first|exact av.refl _|apply av.step)⟩
end Go.Proofs.YtpekmdpbfjdjkaaGreat.aD
namespace Go.Proofs.YtpekmdpbfjdjkaaGreat.cL
open Go Go.RowKit ag.ax ag.aV ag.aU aD fr plain iK crc
theorem Bd (x:Nat) (h:x<4294967296):A7 x<4294967296:=by
 unfold A7;split
 ·exact Nat.xor_lt_two_pow (n:=32) (by omega) (by decide)
 ·omega
theorem xI (d:Nat):∀(k i x:Nat),i+d=8→d<k→x<4294967296→dj.l0 k (x:Int) (i:Int)=some (oa d x:Nat):=by
 induction d with
 | zero=>
  intro k i x hi hk hx;obtain ⟨k,rfl⟩:∃m,k=m+1:=⟨k - 1,by omega⟩;simp only [dj.l0];rw [if_neg (by omega)];rfl
 | succ d ih=>
  intro k i x hi hk hx;obtain ⟨k,rfl⟩:∃m,k=m+1:=⟨k - 1,by omega⟩;simp only [dj.l0];have hw:wrap64 ((i:Int)+1)=((i+1:Nat):Int):=by unfold wrap64;omega
  have h1:Go.bits .and .u32 (x:Int) 1=((x % 2:Nat):Int):=by
   rw [show (1:Int)=((1:Nat):Int) from rfl,u32_and_nat _ _ hx (by decide),Nat.and_one_is_mod]
  have h2:((x:Int) / 2)=((x / 2:Nat):Int):=by omega
  rw [if_pos (by omega),h1,hw,h2];rw [oa];by_cases hb:x % 2=1
  ·rw [if_pos (by omega),show (2197175160:Int)=((2197175160:Nat):Int) from rfl,pO _ _ (by omega) (by decide),ih k (i+1) _ (by omega) (by omega) (Nat.xor_lt_two_pow (n:=32) (by omega) (by decide))];unfold A7;rw [if_pos hb]
  ·rw [if_neg (by omega),ih k (i+1) _ (by omega) (by omega) (by omega)];unfold A7;rw [if_neg hb]
theorem yH (x:Nat) (h:x<256):dj.f 9 (x:Int)=some (oa 8 x:Nat):=by
 unfold dj.f;rw [show ((x:Int) % 4294967296)=(x:Int) by omega];exact xI 8 9 0 x rfl (by omega) (by omega)
theorem AQ (x:Nat) (h:x<256) (W:World):Calls Tryz.prog 118 #[.int .u8 (x:Int)] W fun e w'=>e = .returned (.int .u32 (oa 8 x:Nat))∧av W w':=dj.calls 9 _ _ W (yH x h)
def pe (r:Nat) (l:List Int):Nat:=l.foldl (fun r c=>iz r c.toNat) r
def eH (l:List Int):Nat:=4294967295 - pe 4294967295 l
theorem yw (l:List Int):∀r,r<4294967296→aq l→pe r l<4294967296:=by
 induction l with
 | nil=>intro r h _;exact h
 | cons c l ih=>
  intro r h hb;have hc:=hb c List.mem_cons_self;exact ih _ (mJ r c.toNat h (by omega)) (fun x hx=>hb x (List.mem_cons_of_mem _ hx))
theorem zk (r:Nat) (h0:r<4294967296):4294967295 ^^^ r=4294967295 - r:=by
 have h:=congrArg BitVec.toNat (BitVec.xor_allOnes (x:=BitVec.ofNat 32 r));rw [mG,BitVec.toNat_allOnes,BitVec.toNat_not,kZ,jM h0,Nat.xor_comm] at h;simpa using h
theorem ye (n:Nat):∀x,x<4294967296→oa n x<4294967296:=by
 induction n with
 | zero=>intro x h;exact h
 | succ n ih=>intro x h;exact ih _ (Bd x h)
theorem yb (A:Option Addr) (c:Nat) (l:List Int) (W:World) (hl:Kd.C (Kd.int .u8) W A l.length l) (hc:l.length≤c) (hL:l.length≤1000000000) (hb:aq l) :
 Calls Tryz.prog 74 #[.int .u32 0, .slice A l.length c] W fun e w'=>e = .returned (.int .u32 (eH l:Nat))∧av W w':=by
 have HC:=aa hl;have HB:=aa hb;have hLi:(l.length:Int)≤1000000000:=by omega
 clear hl hb;have hsg:IntKind.u32.signed=false:=rfl;go_in;have hmax:IntKind.u32.max=4294967295:=rfl;have hx0:bits .xor .u32 4294967295 0=4294967295:=by decide +kernel
 go_wp2_with fail;obtain ⟨T,hT⟩:∃T,T=pe 4294967295 l:=⟨_,rfl⟩;have HT:=aa hT;clear hT;go_loopw [5,7,12] (fun v5 v7 v12 wr=>∃(i r:Nat),v5 = .int .u32 (r:Int)∧v12 = .int .i64 (i:Int)∧i≤l.length∧r<4294967296∧af (pe r (l.drop i)=T)∧av W wr) (fun _ _ v _=>l.length - (intOf v).toNat)
 case atStart=>exact ⟨0,4294967295,rfl,rfl,aI _,by omega,⟨HT.1.symm⟩,av.refl _⟩
 case round=>
  obtain ⟨i,r,rfl,rfl,hi,hr,R,⟨m1,rfl⟩⟩:=hrel;by_cases hlt:i<l.length
  case neg=>
   have hii:¬(i:Int)<(l.length:Int):=by omega
   have hlast:bits .xor .u32 4294967295 (r:Int)=((4294967295 - r:Nat):Int):=by
    rw [show (4294967295:Int)=((4294967295:Nat):Int) from rfl,pO _ _ (by decide) hr];congr 1;exact zk r hr
   have R2:=aa (show r=T by rw [←R.1,List.drop_eq_nil_of_le (by omega)];rfl);clear R;go_wp2_with fail;go_ret;exact ⟨by rw [eH,←HT.1,←R2.1];rfl,⟨⟨m1,rfl⟩⟩⟩
  have hii:(i:Int)<(l.length:Int):=by omega
  obtain ⟨ad,rfl,hcell⟩:=mU HC.1 i hlt;have hcell2:(W.drewN m1).cell? (ad.add i)=some (.int .u8 (rd l i)):=hcell;have hcc:=HB.1 (rd l i) (by simp only [rd,List.getD_eq_getElem?_getD,Int.toNat_natCast,List.getElem?_eq_getElem hlt,Option.getD_some];exact List.getElem_mem hlt);have hdrop:l.drop i=rd l (i:Int)::l.drop (i+1):=by
   rw [ap hlt];congr 1;simp [rd,List.getD_eq_getElem?_getD,hlt]
  have R1:=R.1;rw [hdrop] at R1;generalize rd l (i:Int)=x at hcell hcell2 hcc R1;obtain ⟨y,rfl⟩:=Int.eq_ofNat_of_zero_le hcc.1;have hy:y<256:=by omega
  have R2:=aa (show pe (iz r y) (l.drop (i+1))=T from R1);have h8:IntKind.u8.wrap (r:Int)=((r % 256:Nat):Int):=by rw [IntKind.wrap_u8'];omega
  have h9:bits .xor .u8 ((r:Int) % 256) (y:Int)=(((r % 256) ^^^ y:Nat):Int):=by rw [show (r:Int) % 256=((r % 256:Nat):Int) by omega];exact u8_xor_nat _ _ (by omega) hy
  have hz:(r % 256) ^^^ y<256:=Nat.xor_lt_two_pow (n:=8) (by omega) (by omega);have hw1:wrap64 ((i:Int)+1)=(i:Int)+1:=by unfold wrap64;omega
  have hb:=ye 8 ((r % 256) ^^^ y) (by omega);have h10:bits .xor .u32 ((r:Int) / 256) (oa 8 ((r % 256) ^^^ y):Nat)=(iz r y:Nat):=by rw [show (r:Int) / 256=((r / 256:Nat):Int) by omega];exact pO _ _ (by omega) hb
  have hs:=mJ r y hr hy;clear R1 hdrop R hcc hcell h8;go_wp2_with fail;refine (AQ _ hz _).mono ?_;rintro e w3 ⟨rfl,m3,rfl⟩;generalize oa 8 ((r % 256) ^^^ y)=z at h10 hb;generalize iz r y=r' at h10 hs R2;clear hz h9;go_wp2_with fail;go_roundw
  case rel=>exact ⟨i+1,r',rfl,by go_num,by omega,hs,R2,⟨⟨m1+m3,rfl⟩⟩⟩
  case measure=>
   show l.length - ((i:Int)+1).toNat<l.length - (i:Int).toNat;omega
theorem zN (A:Option Addr) (c:Nat) (l:List Int) (W:World) (hl:Kd.C (Kd.int .u8) W A l.length l) (hc:l.length≤c) (hL:l.length≤1000000000) (hb:aq l) :
 Calls Tryz.prog 31 #[.slice A l.length c] W fun e w'=>e = .returned (.int .u32 (eH l:Nat))∧av W w':=by
 have M:=aa (yb A c l W hl hc hL hb);clear hl hb hc hL;generalize l.length=n at M ⊢;go_in;go_wp2_with fail;refine M.1.mono ?_;rintro e w3 ⟨rfl,hD⟩;have D:=aa hD;clear hD M;go_wp2_with fail;go_ret;exact ⟨rfl,D.1⟩
end Go.Proofs.YtpekmdpbfjdjkaaGreat.cL
namespace Go.Proofs.YtpekmdpbfjdjkaaGreat.fE
open Go Go.RowKit ag.ax ag.aV ag.aU aD fr plain iK cL
def qM (W:World) (o:Option Int) (e:Ending) (w':World):Prop:=∃(cs:List Value) (pl er:Int),e = .returned (.tuple #[.agg cs.toArray, .int .i64 pl, .int .i64 er])∧Below W.heap.size W w'∧cs.length=17∧(∀q∈cs,q.oneCell'=true)∧
 match o with
 | none=>er≠0
 | some k=>er=0∧cs.head? = some (.int .u8 k)
structure wX (W w:World) (b2 b3 b4 base:Nat):Prop where
 c2:∃cs,w.heap[b2]? = some (.cells cs 214 (0,0))∧cs.size=17
 c3:∃p,w.heap[b3]? = some (.cells #[.int .i64 p] 3 (0,0))
 c4:∃e,w.heap[b4]? = some (.cells #[.int .i64 e] 33 (0,0))
 k2:W.heap.size≤b2∧b2<base
 k3:W.heap.size≤b3∧b3<base
 k4:W.heap.size≤b4∧b4<base
 below:Below W.heap.size W w
 size:base≤w.heap.size
theorem wX.step {W w w':World} {b2 b3 b4 base:Nat} (h:wX W w b2 b3 b4 base) (hb:Below base w w'):wX W w' b2 b3 b4 base:=by
 obtain ⟨cs,h2,hs⟩:=h.c2;obtain ⟨p,h3⟩:=h.c3;obtain ⟨e,h4⟩:=h.c4;have hW:W.heap.size≤base:=by have:=h.k2;omega
 exact ⟨⟨cs,(hb.block b2 h.k2.2).trans h2,hs⟩,⟨p,(hb.block b3 h.k3.2).trans h3⟩,⟨e,(hb.block b4 h.k4.2).trans h4⟩,h.k2,h.k3,h.k4,h.below.trans (hb.mono hW),Nat.le_trans h.size hb.size⟩
theorem lg (tmps:Array Value) (w:World) (b2 b3 b4:Nat) (t2:tmps.getD 2 undef = .pointer (some ⟨b2,0,none⟩)) (t3:tmps.getD 3 undef = .pointer (some ⟨b3,0,none⟩)) (t4:tmps.getD 4 undef = .pointer (some ⟨b4,0,none⟩))
 (cs:List Value) (p e:Int) (h2:w.heap[b2]? = some (.cells cs.toArray 214 (0,0))) (hs:cs.length=17) (h3:w.heap[b3]? = some (.cells #[.int .i64 p] 3 (0,0))) (h4:w.heap[b4]? = some (.cells #[.int .i64 e] 33 (0,0))) :
 (results Tryz.f146 tmps).run Tryz.prog w = .ok (.tuple #[.agg cs.toArray, .int .i64 p, .int .i64 e]) w:=by
 have hr:Tryz.f146.results=#[.cell 2 214, .cell 3 3, .cell 4 33]:=rfl;have e2:tmps[2]?.getD undef = .pointer (some ⟨b2,0,none⟩):=by simpa using t2
 have e3:tmps[3]?.getD undef = .pointer (some ⟨b3,0,none⟩):=by simpa using t3
 have e4:tmps[4]?.getD undef = .pointer (some ⟨b4,0,none⟩):=by simpa using t4
 have l2:=jm (P:=Tryz.prog) w b2 214 214 cs.toArray (0,0) _ h2 Tryz.underlying214 rfl (by rw [show cs.toArray.size=17 by simpa using hs];kernel_rfl);have q3:w.cell? ⟨b3,0,none⟩=some (.int .i64 p):=cell_of h3 0;have q4:w.cell? ⟨b4,0,none⟩=some (.int .i64 e):=cell_of h4 0;simp [results,hr,e2,e3,e4,asAddr,l2];simp [go_sem,q3,q4]
theorem tE (W w:World) (b2 b3 b4 base:Nat) (tmps:Array Value) (at_ why:Int) (hy:why≠0) (h:wX W w b2 b3 b4 base) (t2:tmps.getD 2 undef = .pointer (some ⟨b2,0,none⟩)) (t3:tmps.getD 3 undef = .pointer (some ⟨b3,0,none⟩)) (t4:tmps.getD 4 undef = .pointer (some ⟨b4,0,none⟩)) :
 Leaves Tryz.prog Tryz.f146 tmps (qM W none) [{ target:= .fn (.func 166) #[.pointer (some ⟨b2,0,none⟩), .pointer (some ⟨b3,0,none⟩), .pointer (some ⟨b4,0,none⟩)],args:=#[] }] (.panicking [{ v:= .iface 261 (.agg #[.int .i64 at_, .int .i64 why]),recovered:=false }]) w:=by
 obtain ⟨cs,h2,hs⟩:=h.c2;obtain ⟨p,h3⟩:=h.c3;obtain ⟨e,h4⟩:=h.c4;refine leaves_cons (f:=166) (args:=#[.pointer (some ⟨b2,0,none⟩), .pointer (some ⟨b3,0,none⟩), .pointer (some ⟨b4,0,none⟩)]) (by simp) rfl ?_;refine (EH b2 b3 b4 W.heap.size at_ why p e cs w h2 hs h3 h4 h.k2.1 h.k3.1 h.k4.1).mono ?_;rintro e2 u' w' ⟨rfl,rfl,j2,j3,j4,hb⟩;refine ⟨_,lg tmps w' b2 b3 b4 t2 t3 t4 vY at_ why j2 rfl j3 j4,vY,at_,why,rfl,h.below.trans hb,rfl,by decide,hy⟩
theorem AL (W w:World) (b2 b3 b4 base:Nat) (tmps:Array Value) (k:Int) (cs:List Value) (hs:cs.length=17) (h1:∀q∈cs,q.oneCell'=true) (hk:cs.head? = some (.int .u8 k)) (h2:w.heap[b2]? = some (.cells cs.toArray 214 (0,0))) (h3:w.heap[b3]? = some (.cells #[.int .i64 0] 3 (0,0))) (h4:w.heap[b4]? = some (.cells #[.int .i64 0] 33 (0,0))) (hb:Below W.heap.size W w) (t2:tmps.getD 2 undef = .pointer (some ⟨b2,0,none⟩)) (t3:tmps.getD 3 undef = .pointer (some ⟨b3,0,none⟩)) (t4:tmps.getD 4 undef = .pointer (some ⟨b4,0,none⟩)) :
 Leaves Tryz.prog Tryz.f146 tmps (qM W (some k)) [{ target:= .fn (.func 166) #[.pointer (some ⟨b2,0,none⟩), .pointer (some ⟨b3,0,none⟩), .pointer (some ⟨b4,0,none⟩)],args:=#[] }] .returning w:=by
 refine leaves_cons (f:=166) (args:=#[.pointer (some ⟨b2,0,none⟩), .pointer (some ⟨b3,0,none⟩), .pointer (some ⟨b4,0,none⟩)]) (by simp) rfl ?_;refine (tS b2 b3 b4 w).mono ?_;rintro e2 u' w' ⟨rfl,rfl,rfl⟩;exact ⟨_,lg tmps w' b2 b3 b4 t2 t3 t4 cs 0 0 h2 hs h3 h4,cs,0,0,rfl,hb,hs,h1,rfl,hk⟩
theorem qM.no {W w:World} {b2 b3 b4 base:Nat} {tmps:Array Value} {at_ why:Int} {o:Option Int} (ho:o=none) (hy:why≠0) (h:wX W w b2 b3 b4 base) (t2:tmps.getD 2 undef = .pointer (some ⟨b2,0,none⟩)) (t3:tmps.getD 3 undef = .pointer (some ⟨b3,0,none⟩)) (t4:tmps.getD 4 undef = .pointer (some ⟨b4,0,none⟩)) :
 bodyPostD Tryz.prog Tryz.f146 (qM W o) (.panic [{ v:= .iface 261 (.agg #[.int .i64 at_, .int .i64 why]),recovered:=false }]) { tmps:=tmps,defers:=[{ target:= .fn (.func 166) #[.pointer (some ⟨b2,0,none⟩), .pointer (some ⟨b3,0,none⟩), .pointer (some ⟨b4,0,none⟩)],args:=#[] }] } w:=by
 subst ho;exact tE W w b2 b3 b4 base tmps at_ why hy h t2 t3 t4
def sH (k:Int):Mg:=⟨k,0,0,0,[],[],false,0,0,0,0,0,0,0,[],[],[]⟩
def gE (t:Nat) (g:Mg) (l:List Int):Option (Mg × List Int):=if t=294 then iu (partsOf g) g l else jt t g l
def iH:List Nat→Mg→List Int→Option (Mg × List Int)
 | [],g,l=>some (g,l)
 | t::ts,g,l=>(gE t g l).bind fun q=>iH ts q.1 q.2
def yO (l:List Int):Int:=rd l 0*16777216+rd l 1*65536+rd l 2*256+rd l 3
def ic (l:List Int):Option Mg:=
 if l.length≤4096 then if 7≤l.length then if rd l 0=83 then if rd l 1=1 then
  if (eH (l.take (l.length - 4)):Int)=yO (l.drop (l.length - 4)) then if 1≤rd l 2∧rd l 2≤12 then
   (iH (fieldsOf (rd l 2)) (sH (rd l 2)) ((l.take (l.length - 4)).drop 3)).bind fun q=>if q.2.length=0 then some q.1 else none
  else none else none else none else none else none else none
theorem wX.start (W:World) (cs:Array Value) (hs:cs.size=17):wX W (((W.alloc (.cells cs 214)).alloc (.cells #[.int .i64 0] 3)).alloc (.cells #[.int .i64 0] 33)) W.heap.size (W.heap.size+1) (W.heap.size+1+1) (W.heap.size+1+1+1):=by
 have e1:(W.alloc (.cells cs 214)).heap.size=W.heap.size+1:=cW _;have e2:((W.alloc (.cells cs 214)).alloc (.cells #[.int .i64 0] 3)).heap.size=W.heap.size+1+1:=by rw [←e1];exact cW _
 have e3:(((W.alloc (.cells cs 214)).alloc (.cells #[.int .i64 0] 3)).alloc (.cells #[.int .i64 0] 33)).heap.size=W.heap.size+1+1+1:=by rw [←e2];exact cW _
 have n2:=aJ W (.cells cs 214);have n3:=aJ (W.alloc (.cells cs 214)) (.cells #[.int .i64 0] 3);have n4:=aJ ((W.alloc (.cells cs 214)).alloc (.cells #[.int .i64 0] 3)) (.cells #[.int .i64 0] 33);rw [e1] at n3;rw [e2] at n4;have n22:=(cm (W.alloc (.cells cs 214)) (.cells #[.int .i64 0] 3) _ (by rw [e1];omega)).trans n2;have n222:=(cm ((W.alloc (.cells cs 214)).alloc (.cells #[.int .i64 0] 3)) (.cells #[.int .i64 0] 33) _ (by rw [e2];omega)).trans n22;have n33:=(cm ((W.alloc (.cells cs 214)).alloc (.cells #[.int .i64 0] 3)) (.cells #[.int .i64 0] 33) _ (by rw [e2];omega)).trans n3;exact ⟨⟨cs,n222,hs⟩,⟨0,n33⟩,⟨0,n4⟩,⟨Nat.le_refl _,by omega⟩,⟨by omega,by omega⟩,⟨by omega,by omega⟩,ah (ah (ah (Below.refl _ _) _) _) _,by rw [e3];exact Nat.le_refl _⟩
end Go.Proofs.YtpekmdpbfjdjkaaGreat.fE