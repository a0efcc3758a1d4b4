/- Part 6 of the proof that reading bytes answers as the document does. No condition. -/
import Derived.Test.YtpekmdpbfjdjkaaGreatY5
set_option maxHeartbeats 16000000
set_option maxRecDepth 100000
set_option linter.all false
namespace Go.Proofs.YtpekmdpbfjdjkaaGreat.aD
open Go.RowKit ag.ax ag.aV ag.aU
attribute [local go_sem high] Cy Ca
def dK.f (k:Nat) (l0:List Int) (a1:Int):Option (List Int):=(bn.f k a1).bind fun t398=>(if l0.length+t398.length<140737488355328 then (some (l0++t398)) else (none))
theorem dK.calls (k:Nat) (P0_:Nat→Prop) (u9000_:Value) (l0:List Int) (a1:Int) (r:List Int) (w0 w:World) (hB:Below w0.heap.size w0 w) (ho0:Kd.R (Kd.int .u8) 5 w w0.heap.size P0_ u9000_ l0) (h:dK.f k l0 a1=some r) :
 Calls Tryz.prog 79 #[u9000_, .int .u64 a1] w fun e w'=>∃v0_:Value,e = .returned (v0_)∧Kd.R (Kd.int .u8) 5 w' w0.heap.size (fun k_=>(P0_ k_∨w.heap.size≤k_)) v0_ r∧Below w0.heap.size w0 w'∧Kept w w' (fun k_=>P0_ k_):=by
 have HO0:=aa (show Kd.R (Kd.int .u8) 5 w w0.heap.size (fun k_=>(P0_ k_∨w.heap.size≤k_)) u9000_ l0 from Kd.bZ ho0 (fun k_ hk=>(.inl hk)));have HK:=aa (Kept.refl w (fun k_=>P0_ k_));have HW0:=aa hB.size;have HB:=aa hB;clear hB;have H:((bn.f k a1).bind fun t398=>(if l0.length+t398.length<140737488355328 then (some (l0++t398)) else (none)))=some r:=h;clear h;replace H:=Option.bind_eq_some_iff.mp H;obtain ⟨t398,A30,H⟩:=H;replace H:(if l0.length+t398.length<140737488355328 then (some (l0++t398)) else (none))=some r:=H;have A3:=aa A30;clear A30;by_cases c4:l0.length+t398.length<140737488355328
 ·rw [if_pos c4] at H;have LMc4:=aa c4;clear c4;obtain ⟨y401,hy401⟩:∃y_:List Int,y_=(l0++t398):=⟨_,rfl⟩;replace H:(some y401)=some r:=by first|(rw [hy401];with_reducible exact H)|(have H2_:=(aj _ _).symm.trans H;rw [hy401];with_reducible exact H2_)|(have H2_:=(aj _ _).symm.trans H;with_reducible exact H2_)|with_reducible exact H|(rw [hy401];exact H)|exact H
  have Ny401:=aa hy401;clear hy401;obtain rfl:=ar H;go_in;go_wp2_with (first|((with_reducible refine dB (f:=123) rfl ?_);refine gW (some 7) rfl rfl Tryz.func123 (by kernel_rfl) rfl #[.int .u64 a1] rfl (by (try simp only [List.map_toArray,List.map_cons,List.map_nil]);first|done|rfl|(simp only [List.length_drop,List.length_take];rfl)) ?_;(with_reducible refine (bn.calls k a1 t398 _ A3.1).mono ?_);rintro e w5 ⟨v399,rfl,ho0,hb⟩;refine ⟨_,rfl,?_⟩;have n0_:=aa (Kd.qy (by (with_reducible repeat (first|apply Kd.cM|apply Kd.cQ|apply Kd.dc));exact HO0.1) (Kd.ri ho0) hb);have n1_:=aa (Kd.cI (Kd.Ak (Kd.AU (M:=fun k_=>(P0_ k_∨w.heap.size≤k_)) ho0 (by first|exact HK.1.1|exact (show Kept w _ (fun k_=>P0_ k_) from by repeat (first|(with_reducible first|exact HK.1|apply Kept.alloc|apply Kept.drewN|apply Kept.drew)|exact HK.1)).1) (fun k_ h_=> .inr h_)) (Kd.xz (by (with_reducible repeat (first|apply Kd.cM|apply Kd.cQ|apply Kd.dc));exact HO0.1))) (cP (by repeat (first|(with_reducible first|exact HB.1|apply ah|apply ai|apply ay)|exact HB.1))));have n2_:=aa (Kept.below (S:=(fun k_=>P0_ k_)) (by repeat (first|(with_reducible first|exact HK.1|apply Kept.alloc|apply Kept.drewN|apply Kept.drew)|exact HK.1)) hb);have n3_:=aa (fO (by repeat (first|(with_reducible first|exact HB.1|apply ah|apply ai|apply ay)|exact HB.1)) hb);clear HO0;clear HK;clear HB;have HO0:=n0_;have HO400:=n1_;have HK:=n2_;have HB:=n3_;clear n0_ n1_ n2_ n3_;(try clear hb);(try clear hb2);(try clear hk);(try clear hi);(try clear ho0);obtain ⟨Ao7,co7,eo7⟩:=Kd.aG HO400.1;subst eo7)|((with_reducible refine aM (b:= .append) (xs:=#[.tmp 8, .tmp 9]) rfl ?_);at_builtin;refine Kd.dr (Kd.int .u8) (w0:=w0) w0.heap.size rfl (.tmp 8) (.tmp 9) 32 5 (.int .u8 0) 1 rfl Tryz.underlying32 ff rfl (by decide) (by omega) u9000_ l0 t398 _ _ _ (fun k_=>(P0_ k_∨w.heap.size≤k_)∧some k_≠(.slice Ao7 t398.length co7:Value).ownBlock) (fun _=>False) rfl rfl ?aO ?aR (fun _ _ h=>h) (fun _ h=>h.elim) ?aF ?aB ?aS ?aL ?_;(case aR=>repeat (first|exact (Kd.bI HO400.1).2.2|(with_reducible refine Kd.eU ?_ _)|(with_reducible refine Kd.dZ ?_ _)|(with_reducible refine Kd.jU ?_)));(case aB=>exact (by repeat (first|(with_reducible first|exact HB.1|apply ah|apply ai|apply ay)|exact HB.1)));(case aF=>exact (fun k_ hk=>⟨(.inr (Nat.le_trans (by first|exact HK.1.1|exact (show Kept w _ (fun k_=>P0_ k_) from by repeat (first|(with_reducible first|exact HK.1|apply Kept.alloc|apply Kept.drewN|apply Kept.drew)|exact HK.1)).1) hk)),Kd.fresh' (Kd.xz (by (with_reducible repeat (first|apply Kd.cM|apply Kd.cQ|apply Kd.dc));exact HO400.1)) k_ hk⟩));(case aO=>exact (by (with_reducible repeat (first|apply Kd.cM|apply Kd.cQ|apply Kd.dc));exact HO0.1));(case aS=>exact (cP (by repeat (first|(with_reducible first|exact HB.1|apply ah|apply ai|apply ay)|exact HB.1))));(case aL=>have:=LMc4.1;omega);intro v402 w6 ho hb hg hat;rw [←Ny401.1] at ho;have n0_:=aa (Kd.yJ (ok:=(fun k_=>(P0_ k_∨w.heap.size≤k_))) (by (with_reducible repeat (first|apply Kd.cM|apply Kd.cQ|apply Kd.dc));exact Kd.bZ HO400.1 (fun _ hk=>⟨hk.1.1,hk.2⟩)) hg hat);have n1_:=aa (hb);have n2_:=aa (Kept.fx (S:=(fun k_=>P0_ k_)) hg (by repeat (first|(with_reducible first|exact HK.1|apply Kept.alloc|apply Kept.drewN|apply Kept.drew)|exact HK.1)) (fun k_ e_=>(HO0.1.1 k_ e_).1));have n3_:=aa (ho);clear HO400;clear HB;clear HK;clear HO0;have HO400:=n0_;have HB:=n1_;have HK:=n2_;have HO403:=n3_;clear n0_ n1_ n2_ n3_;clear ho hb hg hat));go_ret;exact ⟨_,by first|rfl|(simp [bO,bN]<;>rfl)|(simp [*,bO,bN]<;>rfl),by (with_reducible repeat (first|apply Kd.cM|apply Kd.cQ|apply Kd.dc));exact Kd.bZ HO403.1 (fun _ hk=>hk.1),by repeat (first|(with_reducible first|exact HB.1|apply ah|apply ai|apply ay)|exact HB.1),by repeat (first|(with_reducible first|exact HK.1|apply Kept.alloc|apply Kept.drewN|apply Kept.drew)|exact HK.1)⟩
 ·rw [if_neg c4] at H;exact absurd H (by simp)
def fk.f (k:Nat) (l0:List Int) (l1:List Int):Option (List Int):=(dK.f k l0 (IntKind.u64.wrap ((l1.length:Int)))).bind fun t404=>(if t404.length+l1.length<140737488355328 then (some (t404++l1)) else (none))
theorem fk.calls (k:Nat) (P0_:Nat→Prop) (u9000_:Value) (l0:List Int) (A1:Option Addr) (c1:Nat) (l1:List Int) (r:List Int) (w0 w:World) (hB:Below w0.heap.size w0 w) (ho0:Kd.R (Kd.int .u8) 5 w w0.heap.size P0_ u9000_ l0) (hr1:∀W_,Kept w W_ (fun k_=>P0_ k_)→Kd.C (Kd.int .u8) W_ A1 l1.length l1) (hc1:l1.length≤c1) (h:fk.f k l0 l1=some r) :
 Calls Tryz.prog 80 #[u9000_, .slice A1 l1.length c1] w fun e w'=>∃v0_:Value,e = .returned (v0_)∧Kd.R (Kd.int .u8) 5 w' w0.heap.size (fun k_=>(P0_ k_∨w.heap.size≤k_)) v0_ r∧Below w0.heap.size w0 w'∧Kept w w' (fun k_=>P0_ k_):=by
 have HO0:=aa (show Kd.R (Kd.int .u8) 5 w w0.heap.size (fun k_=>(P0_ k_∨w.heap.size≤k_)) u9000_ l0 from Kd.bZ ho0 (fun k_ hk=>(.inl hk)));have HR1:=aa hr1;have HC1:=aa hc1;clear hr1 hc1;have HK:=aa (Kept.refl w (fun k_=>P0_ k_));have HW0:=aa hB.size;have HB:=aa hB;clear hB;have H:((dK.f k l0 (IntKind.u64.wrap ((l1.length:Int)))).bind fun t404=>(if t404.length+l1.length<140737488355328 then (some (t404++l1)) else (none)))=some r:=h;clear h;replace H:=Option.bind_eq_some_iff.mp H;obtain ⟨t404,A30,H⟩:=H;replace H:(if t404.length+l1.length<140737488355328 then (some (t404++l1)) else (none))=some r:=H;have A3:=aa A30;clear A30;by_cases c4:t404.length+l1.length<140737488355328
 ·rw [if_pos c4] at H;have LMc4:=aa c4;clear c4;obtain ⟨y407,hy407⟩:∃y_:List Int,y_=(t404++l1):=⟨_,rfl⟩;replace H:(some y407)=some r:=by first|(rw [hy407];with_reducible exact H)|(have H2_:=(aj _ _).symm.trans H;rw [hy407];with_reducible exact H2_)|(have H2_:=(aj _ _).symm.trans H;with_reducible exact H2_)|with_reducible exact H|(rw [hy407];exact H)|exact H
  have Ny407:=aa hy407;clear hy407;obtain rfl:=ar H;obtain ⟨Ao5,co5,eo5⟩:=Kd.aG HO0.1;subst eo5;go_in;go_wp2_with (first|((with_reducible refine dB (f:=79) rfl ?_);refine gW (some 9) rfl rfl Tryz.func79 (by kernel_rfl) rfl #[.slice Ao5 l0.length co5, .int .u64 (IntKind.u64.wrap ((l1.length:Int)))] rfl (by (try simp only [List.map_toArray,List.map_cons,List.map_nil]);first|done|rfl|(simp only [List.length_drop,List.length_take];rfl)) ?_;(with_reducible refine (dK.calls k (fun k_=>some k_=(.slice Ao5 l0.length co5:Value).ownBlock) (.slice Ao5 l0.length co5) l0 (IntKind.u64.wrap ((l1.length:Int))) t404 w0 _ ?side1 ?side2 A3.1).mono ?_);(case side1=>repeat (first|(with_reducible first|exact HB.1|apply ah|apply ai|apply ay)|exact HB.1));(case side2=>exact Kd.pq rfl HO0.1);rintro e w6 ⟨v405,rfl,ho0,hb,hkp⟩;refine ⟨_,rfl,?_⟩;have n0_:=aa (Kd.bZ (ok':=fun k_=>(P0_ k_∨w.heap.size≤k_)) ho0 (fun k_ hk_=>Or.elim hk_ (fun hs_=>(HO0.1.1 k_ (hs_).symm)) (fun hn_=>(.inr (Nat.le_trans (by first|exact HK.1.1|exact (show Kept w _ (fun k_=>P0_ k_) from by repeat (first|(with_reducible first|exact HK.1|apply Kept.alloc|apply Kept.drewN|apply Kept.drew)|exact HK.1)).1) hn_)))));have n1_:=aa (Kept.oJ (S:=(fun k_=>P0_ k_)) (by repeat (first|(with_reducible first|exact HK.1|apply Kept.alloc|apply Kept.drewN|apply Kept.drew)|exact HK.1)) hkp (fun k_ hs_=>(fun e_=>(HO0.1.1 k_ e_.symm)) hs_));have n2_:=aa (hb);clear HK;clear HB;clear HO0;have HO406:=n0_;have HK:=n1_;have HB:=n2_;clear n0_ n1_ n2_;(try clear hb);(try clear hkp);(try clear ho0))|((with_reducible refine aM (b:= .append) (xs:=#[.tmp 10, .tmp 11]) rfl ?_);at_builtin;refine Kd.dr (Kd.int .u8) (w0:=w0) w0.heap.size rfl (.tmp 10) (.tmp 11) 32 5 (.int .u8 0) 1 rfl Tryz.underlying32 ff rfl (by decide) (by omega) v405 t404 l1 _ _ _ (fun k_=>(P0_ k_∨w.heap.size≤k_)) (fun _=>False) rfl rfl ?aO ?aR (fun _ _ h=>h) (fun _ h=>h.elim) ?aF ?aB ?aS ?aL ?_;(case aR=>exact Kd.rP HR1.1 (by repeat (first|(with_reducible first|exact HK.1|apply Kept.alloc|apply Kept.drewN|apply Kept.drew)|exact HK.1)));(case aB=>exact (by repeat (first|(with_reducible first|exact HB.1|apply ah|apply ai|apply ay)|exact HB.1)));(case aF=>exact (fun k_ hk=>(.inr (Nat.le_trans (by first|exact HK.1.1|exact (show Kept w _ (fun k_=>P0_ k_) from by repeat (first|(with_reducible first|exact HK.1|apply Kept.alloc|apply Kept.drewN|apply Kept.drew)|exact HK.1)).1) hk))));(case aO=>exact (by (with_reducible repeat (first|apply Kd.cM|apply Kd.cQ|apply Kd.dc));exact HO406.1));(case aS=>exact (cP (by repeat (first|(with_reducible first|exact HB.1|apply ah|apply ai|apply ay)|exact HB.1))));(case aL=>have:=LMc4.1;omega);intro v408 w7 ho hb hg hat;rw [←Ny407.1] at ho;have n0_:=aa (hb);have n1_:=aa (Kept.fx (S:=(fun k_=>P0_ k_)) hg (by repeat (first|(with_reducible first|exact HK.1|apply Kept.alloc|apply Kept.drewN|apply Kept.drew)|exact HK.1)) (fun k_ e_=>(HO406.1.1 k_ e_)));have n2_:=aa (ho);clear HB;clear HK;clear HO406;have HB:=n0_;have HK:=n1_;have HO409:=n2_;clear n0_ n1_ n2_;clear ho hb hg hat));go_ret;exact ⟨_,by first|rfl|(simp [bO,bN]<;>rfl)|(simp [*,bO,bN]<;>rfl),by (with_reducible repeat (first|apply Kd.cM|apply Kd.cQ|apply Kd.dc));exact HO409.1,by repeat (first|(with_reducible first|exact HB.1|apply ah|apply ai|apply ay)|exact HB.1),by repeat (first|(with_reducible first|exact HK.1|apply Kept.alloc|apply Kept.drewN|apply Kept.drew)|exact HK.1)⟩
 ·rw [if_neg c4] at H;exact absurd H (by simp)
def bq.l0:Nat→List (eW)→List (eW)→Int→Option (Bool)
 | 0,_,_,_=>none
 | k+1,x0,x1,x5=>if x5<(x0.length:Int) then (if 0≤x5 then (if x5<(x1.length:Int) then (if (!(((bg x0 x5).f0) == ((bg x1 x5).f0))||(!(((bg x0 x5).f1) == ((bg x1 x5).f1))||(!(((bg x0 x5).f2) == ((bg x1 x5).f2)))))=true then (some false) else (bq.l0 k x0 x1 (wrap64 (x5+1)))) else (none)) else (none)) else (some true)
def bq.f (k:Nat) (l0:List (eW)) (l1:List (eW)):Option (Bool):=if (l0.length:Int)=(l1.length:Int) then (bq.l0 k l0 l1 0) else (some false)
theorem bq.calls (k:Nat) (A0:Option Addr) (c0:Nat) (l0:List (eW)) (A1:Option Addr) (c1:Nat) (l1:List (eW)) (r:Bool) (w:World) (hr0:Kd.C jo w A0 l0.length l0) (hc0:l0.length≤c0) (hr1:Kd.C jo w A1 l1.length l1) (hc1:l1.length≤c1) (h:bq.f k l0 l1=some r) :
 Calls Tryz.prog 34 #[.slice A0 l0.length c0, .slice A1 l1.length c1] w fun e w'=>e = .returned (.bool r)∧av w w':=by
 have hu76:=Tryz.underlying76;have HR0:=aa hr0;have HC0:=aa hc0;clear hr0 hc0;have HR1:=aa hr1;have HC1:=aa hc1;clear hr1 hc1;have H:(if (l0.length:Int)=(l1.length:Int) then (bq.l0 k l0 l1 0) else (some false))=some r:=h;clear h;by_cases c3:(l0.length:Int)=(l1.length:Int)
 ·rw [if_pos c3] at H;have c3b0:((l0.length:Int) == (l1.length:Int))=true:=gw.mpr c3;have c3b1:((l0.length:Int) != (l1.length:Int))=false:=ci.mpr c3;have c3b2:(l0.length == l1.length)=true:=by first|simpa using c3|(simp at c3 ⊢;omega)
  clear c3;have H':=aa H;clear H;go_in;go_wp2;repeat (go_quiet (fail);try go_wp2)
  go_loopg [5] k (fun kq v5 w'=>∃(x5_1:Int),v5 = .int .i64 x5_1∧af (bq.l0 kq l0 l1 x5_1=some r)∧af (kq≤k)∧av w w')
  case atStart=>exact ⟨(0),(by first|rfl|(simp;done)|(simp [*];done)),H',⟨Nat.le_refl _⟩,by repeat (first|exact av.refl _|apply av.step)⟩
  case round=>
   clear H';try clear c1
   try clear p2
   try clear c3
   try clear c3b0
   try clear c3b1
   try clear c3b2
   obtain ⟨x5_1,rfl,HA,HK1,⟨m1,rfl⟩⟩:=hrel;cases gk with
   | zero=>exact absurd HA.1 (by simp [bq.l0])
   | succ k1=>
    have H:=HA.1;clear HA;simp only [bq.l0] at H;by_cases c4:x5_1<(l0.length:Int)
    ·rw [if_pos c4] at H;have c4b0:decide (x5_1<(l0.length:Int))=true:=decide_eq_true c4;clear c4;by_cases c5:0≤x5_1
     ·rw [if_pos c5] at H;have c5b0:decide (0≤x5_1)=true:=decide_eq_true c5;clear c5;by_cases c6:x5_1<(l1.length:Int)
      ·rw [if_pos c6] at H;have c6b0:decide (x5_1<(l1.length:Int))=true:=decide_eq_true c6;clear c6;by_cases c7:(!(((bg l0 x5_1).f0) == ((bg l1 x5_1).f0))||(!(((bg l0 x5_1).f1) == ((bg l1 x5_1).f1))||(!(((bg l0 x5_1).f2) == ((bg l1 x5_1).f2)))))=true
       ·rw [if_pos c7] at H;have c7b0:(!(((bg l0 x5_1).f0) == ((bg l1 x5_1).f0))||(!(((bg l0 x5_1).f1) == ((bg l1 x5_1).f1))||(!(((bg l0 x5_1).f2) == ((bg l1 x5_1).f2)))))=true:=c7;clear c7;obtain rfl:=ar H;have p493:0≤(x5_1:Int):=of_decide_eq_true (by first|(with_reducible assumption)|assumption);have q493:x5_1<(l0.length:Int):=of_decide_eq_true (by first|(with_reducible assumption)|assumption);obtain ⟨ad493,e493,hx493_0,hx493_1,hx493_2⟩:=gd HR0.1 x5_1 p493 q493;cases e493
        replace p493:=a8 p493;replace q493:=a8 q493;have p494:0≤(x5_1:Int):=of_decide_eq_true (by first|(with_reducible assumption)|assumption);have q494:x5_1<(l1.length:Int):=of_decide_eq_true (by first|(with_reducible assumption)|assumption);obtain ⟨ad494,e494,hx494_0,hx494_1,hx494_2⟩:=gd HR1.1 x5_1 p494 q494;cases e494
        replace p494:=a8 p494;replace q494:=a8 q494;go_wp2;repeat (go_quiet (fail);try go_wp2)
        go_ret;exact ⟨by first|rfl|(simp;done)|(simp [*];done),by repeat (first|exact av.refl _|apply av.step)⟩
       ·rw [if_neg c7] at H;have c7b0:(!(((bg l0 x5_1).f0) == ((bg l1 x5_1).f0))||(!(((bg l0 x5_1).f1) == ((bg l1 x5_1).f1))||(!(((bg l0 x5_1).f2) == ((bg l1 x5_1).f2)))))=false:=by simpa using c7
        clear c7;have H':=aa H;clear H;have p493:0≤(x5_1:Int):=of_decide_eq_true (by first|(with_reducible assumption)|assumption);have q493:x5_1<(l0.length:Int):=of_decide_eq_true (by first|(with_reducible assumption)|assumption);obtain ⟨ad493,e493,hx493_0,hx493_1,hx493_2⟩:=gd HR0.1 x5_1 p493 q493;cases e493
        replace p493:=a8 p493;replace q493:=a8 q493;have p494:0≤(x5_1:Int):=of_decide_eq_true (by first|(with_reducible assumption)|assumption);have q494:x5_1<(l1.length:Int):=of_decide_eq_true (by first|(with_reducible assumption)|assumption);obtain ⟨ad494,e494,hx494_0,hx494_1,hx494_2⟩:=gd HR1.1 x5_1 p494 q494;cases e494
        replace p494:=a8 p494;replace q494:=a8 q494;go_wp2;repeat (go_quiet (fail);try go_wp2)
        go_roundg k1
        case measure=>have:=HK1.1;omega
        case rel=>exact ⟨(wrap64 (x5_1+1)),(by first|rfl|(simp;done)|(simp [*];done)),H',⟨by have:=HK1.1;omega⟩,by repeat (first|exact av.refl _|apply av.step)⟩
      ·rw [if_neg c6] at H;exact absurd H (by simp)
     ·rw [if_neg c5] at H;exact absurd H (by simp)
    ·rw [if_neg c4] at H;have c4b0:decide (x5_1<(l0.length:Int))=false:=decide_eq_false c4;clear c4;obtain rfl:=ar H;go_wp2;repeat (go_quiet (fail);try go_wp2)
     go_ret;exact ⟨by first|rfl|(simp;done)|(simp [*];done),by repeat (first|exact av.refl _|apply av.step)⟩
 ·rw [if_neg c3] at H;have c3b0:((l0.length:Int) == (l1.length:Int))=false:=bi.mpr c3;have c3b1:((l0.length:Int) != (l1.length:Int))=true:=mq.mpr c3;have c3b2:(l0.length == l1.length)=false:=by first|simpa using c3|(simp at c3 ⊢;omega)
  obtain rfl:=ar H;go_in;go_wp2;repeat (go_quiet (fail);try go_wp2)
  go_ret;exact ⟨by first|rfl|(simp;done)|(simp [*];done),by repeat (first|exact av.refl _|apply av.step)⟩
def bj.l0:Nat→List (jx)→List (jx)→Int→Option (Bool)
 | 0,_,_,_=>none
 | k+1,x0,x1,x5=>if x5<(x0.length:Int) then (if 0≤x5 then (if x5<(x1.length:Int) then (if (!(((bW x0 x5).f0) == ((bW x1 x5).f0))||(!(((bW x0 x5).f1) == ((bW x1 x5).f1))||(!(((bW x0 x5).f2) == ((bW x1 x5).f2)))))=true then (some false) else (bj.l0 k x0 x1 (wrap64 (x5+1)))) else (none)) else (none)) else (some true)
def bj.f (k:Nat) (l0:List (jx)) (l1:List (jx)):Option (Bool):=if (l0.length:Int)=(l1.length:Int) then (bj.l0 k l0 l1 0) else (some false)
theorem bj.calls (k:Nat) (A0:Option Addr) (c0:Nat) (l0:List (jx)) (A1:Option Addr) (c1:Nat) (l1:List (jx)) (r:Bool) (w:World) (hr0:Kd.C mg w A0 l0.length l0) (hc0:l0.length≤c0) (hr1:Kd.C mg w A1 l1.length l1) (hc1:l1.length≤c1) (h:bj.f k l0 l1=some r) :
 Calls Tryz.prog 36 #[.slice A0 l0.length c0, .slice A1 l1.length c1] w fun e w'=>e = .returned (.bool r)∧av w w':=by
 have hu62:=Tryz.underlying62;have HR0:=aa hr0;have HC0:=aa hc0;clear hr0 hc0;have HR1:=aa hr1;have HC1:=aa hc1;clear hr1 hc1;have H:(if (l0.length:Int)=(l1.length:Int) then (bj.l0 k l0 l1 0) else (some false))=some r:=h;clear h;by_cases c3:(l0.length:Int)=(l1.length:Int)
 ·rw [if_pos c3] at H;have c3b0:((l0.length:Int) == (l1.length:Int))=true:=gw.mpr c3;have c3b1:((l0.length:Int) != (l1.length:Int))=false:=ci.mpr c3;have c3b2:(l0.length == l1.length)=true:=by first|simpa using c3|(simp at c3 ⊢;omega)
  clear c3;have H':=aa H;clear H;go_in;go_wp2;repeat (go_quiet (fail);try go_wp2)
  go_loopg [5] k (fun kq v5 w'=>∃(x5_1:Int),v5 = .int .i64 x5_1∧af (bj.l0 kq l0 l1 x5_1=some r)∧af (kq≤k)∧av w w')
  case atStart=>exact ⟨(0),(by first|rfl|(simp;done)|(simp [*];done)),H',⟨Nat.le_refl _⟩,by repeat (first|exact av.refl _|apply av.step)⟩
  case round=>
   clear H';try clear c1
   try clear p2
   try clear c3
   try clear c3b0
   try clear c3b1
   try clear c3b2
   obtain ⟨x5_1,rfl,HA,HK1,⟨m1,rfl⟩⟩:=hrel;cases gk with
   | zero=>exact absurd HA.1 (by simp [bj.l0])
   | succ k1=>
    have H:=HA.1;clear HA;simp only [bj.l0] at H;by_cases c4:x5_1<(l0.length:Int)
    ·rw [if_pos c4] at H;have c4b0:decide (x5_1<(l0.length:Int))=true:=decide_eq_true c4;clear c4;by_cases c5:0≤x5_1
     ·rw [if_pos c5] at H;have c5b0:decide (0≤x5_1)=true:=decide_eq_true c5;clear c5;by_cases c6:x5_1<(l1.length:Int)
      ·rw [if_pos c6] at H;have c6b0:decide (x5_1<(l1.length:Int))=true:=decide_eq_true c6;clear c6;by_cases c7:(!(((bW l0 x5_1).f0) == ((bW l1 x5_1).f0))||(!(((bW l0 x5_1).f1) == ((bW l1 x5_1).f1))||(!(((bW l0 x5_1).f2) == ((bW l1 x5_1).f2)))))=true
       ·rw [if_pos c7] at H;have c7b0:(!(((bW l0 x5_1).f0) == ((bW l1 x5_1).f0))||(!(((bW l0 x5_1).f1) == ((bW l1 x5_1).f1))||(!(((bW l0 x5_1).f2) == ((bW l1 x5_1).f2)))))=true:=c7;clear c7;obtain rfl:=ar H;have p500:0≤(x5_1:Int):=of_decide_eq_true (by first|(with_reducible assumption)|assumption);have q500:x5_1<(l0.length:Int):=of_decide_eq_true (by first|(with_reducible assumption)|assumption);obtain ⟨ad500,e500,hx500_0,hx500_1,hx500_2⟩:=iF HR0.1 x5_1 p500 q500;cases e500
        replace p500:=a8 p500;replace q500:=a8 q500;have p501:0≤(x5_1:Int):=of_decide_eq_true (by first|(with_reducible assumption)|assumption);have q501:x5_1<(l1.length:Int):=of_decide_eq_true (by first|(with_reducible assumption)|assumption);obtain ⟨ad501,e501,hx501_0,hx501_1,hx501_2⟩:=iF HR1.1 x5_1 p501 q501;cases e501
        replace p501:=a8 p501;replace q501:=a8 q501;go_wp2;repeat (go_quiet (fail);try go_wp2)
        go_ret;exact ⟨by first|rfl|(simp;done)|(simp [*];done),by repeat (first|exact av.refl _|apply av.step)⟩
       ·rw [if_neg c7] at H;have c7b0:(!(((bW l0 x5_1).f0) == ((bW l1 x5_1).f0))||(!(((bW l0 x5_1).f1) == ((bW l1 x5_1).f1))||(!(((bW l0 x5_1).f2) == ((bW l1 x5_1).f2)))))=false:=by simpa using c7
        clear c7;have H':=aa H;clear H;have p500:0≤(x5_1:Int):=of_decide_eq_true (by first|(with_reducible assumption)|assumption);have q500:x5_1<(l0.length:Int):=of_decide_eq_true (by first|(with_reducible assumption)|assumption);obtain ⟨ad500,e500,hx500_0,hx500_1,hx500_2⟩:=iF HR0.1 x5_1 p500 q500;cases e500
        replace p500:=a8 p500;replace q500:=a8 q500;have p501:0≤(x5_1:Int):=of_decide_eq_true (by first|(with_reducible assumption)|assumption);have q501:x5_1<(l1.length:Int):=of_decide_eq_true (by first|(with_reducible assumption)|assumption);obtain ⟨ad501,e501,hx501_0,hx501_1,hx501_2⟩:=iF HR1.1 x5_1 p501 q501;cases e501
        replace p501:=a8 p501;replace q501:=a8 q501;go_wp2;repeat (go_quiet (fail);try go_wp2)
        go_roundg k1
        case measure=>have:=HK1.1;omega
        case rel=>exact ⟨(wrap64 (x5_1+1)),(by first|rfl|(simp;done)|(simp [*];done)),H',⟨by have:=HK1.1;omega⟩,by repeat (first|exact av.refl _|apply av.step)⟩
      ·rw [if_neg c6] at H;exact absurd H (by simp)
     ·rw [if_neg c5] at H;exact absurd H (by simp)
    ·rw [if_neg c4] at H;have c4b0:decide (x5_1<(l0.length:Int))=false:=decide_eq_false c4;clear c4;obtain rfl:=ar H;go_wp2;repeat (go_quiet (fail);try go_wp2)
     go_ret;exact ⟨by first|rfl|(simp;done)|(simp [*];done),by repeat (first|exact av.refl _|apply av.step)⟩
 ·rw [if_neg c3] at H;have c3b0:((l0.length:Int) == (l1.length:Int))=false:=bi.mpr c3;have c3b1:((l0.length:Int) != (l1.length:Int))=true:=mq.mpr c3;have c3b2:(l0.length == l1.length)=false:=by first|simpa using c3|(simp at c3 ⊢;omega)
  obtain rfl:=ar H;go_in;go_wp2;repeat (go_quiet (fail);try go_wp2)
  go_ret;exact ⟨by first|rfl|(simp;done)|(simp [*];done),by repeat (first|exact av.refl _|apply av.step)⟩
def bw.l0:Nat→List (List Int)→List (List Int)→Int→Option (Bool)
 | 0,_,_,_=>none
 | k+1,x0,x1,x5=>if x5<(x0.length:Int) then (if 0≤x5 then (if x5<(x1.length:Int) then (if (strOfNums (iL x0 x5)).toList=(strOfNums (iL x1 x5)).toList then (bw.l0 k x0 x1 (wrap64 (x5+1))) else (some false)) else (none)) else (none)) else (some true)
def bw.f (k:Nat) (l0:List (List Int)) (l1:List (List Int)):Option (Bool):=if (l0.length:Int)=(l1.length:Int) then (bw.l0 k l0 l1 0) else (some false)
theorem bw.calls (k:Nat) (A0:Option Addr) (c0:Nat) (l0:List (List Int)) (A1:Option Addr) (c1:Nat) (l1:List (List Int)) (r:Bool) (w:World) (hr0:Kd.C (Kd.slice 5 (Kd.int .u8)) w A0 l0.length l0) (hc0:l0.length≤c0) (hr1:Kd.C (Kd.slice 5 (Kd.int .u8)) w A1 l1.length l1) (hc1:l1.length≤c1) (h:bw.f k l0 l1=some r) :
 Calls Tryz.prog 83 #[.slice A0 l0.length c0, .slice A1 l1.length c1] w fun e w'=>e = .returned (.bool r)∧av w w':=by
 have HR0:=aa hr0;have HC0:=aa hc0;clear hr0 hc0;have HR1:=aa hr1;have HC1:=aa hc1;clear hr1 hc1;have H:(if (l0.length:Int)=(l1.length:Int) then (bw.l0 k l0 l1 0) else (some false))=some r:=h;clear h;by_cases c3:(l0.length:Int)=(l1.length:Int)
 ·rw [if_pos c3] at H;have c3b0:((l0.length:Int) == (l1.length:Int))=true:=gw.mpr c3;have c3b1:((l0.length:Int) != (l1.length:Int))=false:=ci.mpr c3;have c3b2:(l0.length == l1.length)=true:=by first|simpa using c3|(simp at c3 ⊢;omega)
  clear c3;have H':=aa H;clear H;go_in;go_wp2;repeat (go_quiet (fail);try go_wp2)
  go_loopg [5] k (fun kq v5 w'=>∃(x5_1:Int),v5 = .int .i64 x5_1∧af (bw.l0 kq l0 l1 x5_1=some r)∧af (kq≤k)∧av w w')
  case atStart=>exact ⟨(0),(by first|rfl|(simp;done)|(simp [*];done)),H',⟨Nat.le_refl _⟩,by repeat (first|exact av.refl _|apply av.step)⟩
  case round=>
   clear H';try clear c1
   try clear p2
   try clear c3
   try clear c3b0
   try clear c3b1
   try clear c3b2
   obtain ⟨x5_1,rfl,HA,HK1,⟨m1,rfl⟩⟩:=hrel;cases gk with
   | zero=>exact absurd HA.1 (by simp [bw.l0])
   | succ k1=>
    have H:=HA.1;clear HA;simp only [bw.l0] at H;by_cases c4:x5_1<(l0.length:Int)
    ·rw [if_pos c4] at H;have c4b0:decide (x5_1<(l0.length:Int))=true:=decide_eq_true c4;clear c4;by_cases c5:0≤x5_1
     ·rw [if_pos c5] at H;have c5b0:decide (0≤x5_1)=true:=decide_eq_true c5;clear c5;by_cases c6:x5_1<(l1.length:Int)
      ·rw [if_pos c6] at H;have c6b0:decide (x5_1<(l1.length:Int))=true:=decide_eq_true c6;clear c6;by_cases c7:(strOfNums (iL l0 x5_1)).toList=(strOfNums (iL l1 x5_1)).toList
       ·rw [if_pos c7] at H;have c7b0:((strOfNums (iL l0 x5_1)).toList == (strOfNums (iL l1 x5_1)).toList)=true:=gw.mpr c7;have c7b1:((strOfNums (iL l0 x5_1)).toList != (strOfNums (iL l1 x5_1)).toList)=false:=ci.mpr c7;clear c7;have H':=aa H;clear H;have p502:0≤(x5_1:Int):=of_decide_eq_true (by first|(with_reducible assumption)|assumption);have q502:x5_1<(l0.length:Int):=of_decide_eq_true (by first|(with_reducible assumption)|assumption);obtain ⟨ad502,A502_0,c502_0,e502,hx502_0,hl502_0,hi502_0⟩:=sY HR0.1 x5_1 p502 q502;cases e502
        have HR502_0:=aa hi502_0;have HC502_0:=aa hl502_0;clear hi502_0 hl502_0;replace p502:=a8 p502;replace q502:=a8 q502;have hcv8:=Kd.cT (P:=Tryz.prog) (A:=A502_0) (c:=c502_0) Tryz.underlying32 Tryz.underlying5 Tryz.underlying9 HR502_0.1;have hcv8q:=fun (n_:Nat)=>Kd.cT (P:=Tryz.prog) (A:=A502_0) (c:=c502_0) Tryz.underlying32 Tryz.underlying5 Tryz.underlying9 (Kd.dZ HR502_0.1 n_);have p503:0≤(x5_1:Int):=of_decide_eq_true (by first|(with_reducible assumption)|assumption);have q503:x5_1<(l1.length:Int):=of_decide_eq_true (by first|(with_reducible assumption)|assumption);obtain ⟨ad503,A503_0,c503_0,e503,hx503_0,hl503_0,hi503_0⟩:=sY HR1.1 x5_1 p503 q503;cases e503
        have HR503_0:=aa hi503_0;have HC503_0:=aa hl503_0;clear hi503_0 hl503_0;replace p503:=a8 p503;replace q503:=a8 q503;have hcv9:=Kd.cT (P:=Tryz.prog) (A:=A503_0) (c:=c503_0) Tryz.underlying32 Tryz.underlying5 Tryz.underlying9 HR503_0.1;have hcv9q:=fun (n_:Nat)=>Kd.cT (P:=Tryz.prog) (A:=A503_0) (c:=c503_0) Tryz.underlying32 Tryz.underlying5 Tryz.underlying9 (Kd.dZ HR503_0.1 n_);go_wp2;repeat (go_quiet (fail);try go_wp2)
        go_roundg k1
        case measure=>have:=HK1.1;omega
        case rel=>exact ⟨(wrap64 (x5_1+1)),(by first|rfl|(simp;done)|(simp [*];done)),H',⟨by have:=HK1.1;omega⟩,by repeat (first|exact av.refl _|apply av.step)⟩
       ·rw [if_neg c7] at H;have c7b0:((strOfNums (iL l0 x5_1)).toList == (strOfNums (iL l1 x5_1)).toList)=false:=bi.mpr c7;have c7b1:((strOfNums (iL l0 x5_1)).toList != (strOfNums (iL l1 x5_1)).toList)=true:=mq.mpr c7;obtain rfl:=ar H;have p502:0≤(x5_1:Int):=of_decide_eq_true (by first|(with_reducible assumption)|assumption);have q502:x5_1<(l0.length:Int):=of_decide_eq_true (by first|(with_reducible assumption)|assumption);obtain ⟨ad502,A502_0,c502_0,e502,hx502_0,hl502_0,hi502_0⟩:=sY HR0.1 x5_1 p502 q502;cases e502
        have HR502_0:=aa hi502_0;have HC502_0:=aa hl502_0;clear hi502_0 hl502_0;replace p502:=a8 p502;replace q502:=a8 q502;have hcv10:=Kd.cT (P:=Tryz.prog) (A:=A502_0) (c:=c502_0) Tryz.underlying32 Tryz.underlying5 Tryz.underlying9 HR502_0.1;have hcv10q:=fun (n_:Nat)=>Kd.cT (P:=Tryz.prog) (A:=A502_0) (c:=c502_0) Tryz.underlying32 Tryz.underlying5 Tryz.underlying9 (Kd.dZ HR502_0.1 n_);have p503:0≤(x5_1:Int):=of_decide_eq_true (by first|(with_reducible assumption)|assumption);have q503:x5_1<(l1.length:Int):=of_decide_eq_true (by first|(with_reducible assumption)|assumption);obtain ⟨ad503,A503_0,c503_0,e503,hx503_0,hl503_0,hi503_0⟩:=sY HR1.1 x5_1 p503 q503;cases e503
        have HR503_0:=aa hi503_0;have HC503_0:=aa hl503_0;clear hi503_0 hl503_0;replace p503:=a8 p503;replace q503:=a8 q503;have hcv11:=Kd.cT (P:=Tryz.prog) (A:=A503_0) (c:=c503_0) Tryz.underlying32 Tryz.underlying5 Tryz.underlying9 HR503_0.1;have hcv11q:=fun (n_:Nat)=>Kd.cT (P:=Tryz.prog) (A:=A503_0) (c:=c503_0) Tryz.underlying32 Tryz.underlying5 Tryz.underlying9 (Kd.dZ HR503_0.1 n_);go_wp2;repeat (go_quiet (fail);try go_wp2)
        go_ret;exact ⟨by first|rfl|(simp;done)|(simp [*];done),by repeat (first|exact av.refl _|apply av.step)⟩
      ·rw [if_neg c6] at H;exact absurd H (by simp)
     ·rw [if_neg c5] at H;exact absurd H (by simp)
    ·rw [if_neg c4] at H;have c4b0:decide (x5_1<(l0.length:Int))=false:=decide_eq_false c4;clear c4;obtain rfl:=ar H;go_wp2;repeat (go_quiet (fail);try go_wp2)
     go_ret;exact ⟨by first|rfl|(simp;done)|(simp [*];done),by repeat (first|exact av.refl _|apply av.step)⟩
 ·rw [if_neg c3] at H;have c3b0:((l0.length:Int) == (l1.length:Int))=false:=bi.mpr c3;have c3b1:((l0.length:Int) != (l1.length:Int))=true:=mq.mpr c3;have c3b2:(l0.length == l1.length)=false:=by first|simpa using c3|(simp at c3 ⊢;omega)
  obtain rfl:=ar H;go_in;go_wp2;repeat (go_quiet (fail);try go_wp2)
  go_ret;exact ⟨by first|rfl|(simp;done)|(simp [*];done),by repeat (first|exact av.refl _|apply av.step)⟩
end Go.Proofs.YtpekmdpbfjdjkaaGreat.aD
namespace Go.Proofs.YtpekmdpbfjdjkaaGreat.aD
open Go.RowKit ag.ax ag.aV ag.aU
def bp.l0:Nat→List (jE)→List (jE)→Int→Option (Bool)
 | 0,_,_,_=>none
 | k+1,x0,x1,x5=>if x5<(x0.length:Int) then (if 0≤x5 then (if x5<(x1.length:Int) then (if ((dG x0 x5).f0)=((dG x1 x5).f0) then (if (strOfNums ((dG x0 x5).f1)).toList=(strOfNums ((dG x1 x5).f1)).toList then (bp.l0 k x0 x1 (wrap64 (x5+1))) else (some false)) else (some false)) else (none)) else (none)) else (some true)
def bp.f (k:Nat) (l0:List (jE)) (l1:List (jE)):Option (Bool):=if (l0.length:Int)=(l1.length:Int) then (bp.l0 k l0 l1 0) else (some false)
theorem bp.calls (k:Nat) (A0:Option Addr) (c0:Nat) (l0:List (jE)) (A1:Option Addr) (c1:Nat) (l1:List (jE)) (r:Bool) (w:World) (hr0:Kd.C jC w A0 l0.length l0) (hc0:l0.length≤c0) (hr1:Kd.C jC w A1 l1.length l1) (hc1:l1.length≤c1) (h:bp.f k l0 l1=some r) :
 Calls Tryz.prog 84 #[.slice A0 l0.length c0, .slice A1 l1.length c1] w fun e w'=>e = .returned (.bool r)∧av w w':=by
 have HR0:=aa hr0;have HC0:=aa hc0;clear hr0 hc0;have HR1:=aa hr1;have HC1:=aa hc1;clear hr1 hc1;have H:(if (l0.length:Int)=(l1.length:Int) then (bp.l0 k l0 l1 0) else (some false))=some r:=h;clear h;by_cases c3:(l0.length:Int)=(l1.length:Int)
 ·rw [if_pos c3] at H;have c3b0:((l0.length:Int) == (l1.length:Int))=true:=gw.mpr c3;have c3b1:((l0.length:Int) != (l1.length:Int))=false:=ci.mpr c3;have c3b2:(l0.length == l1.length)=true:=by first|simpa using c3|(simp at c3 ⊢;omega)
  clear c3;have H':=aa H;clear H;go_in;go_wp2;repeat (go_quiet (fail);try go_wp2)
  go_loopg [5] k (fun kq v5 w'=>∃(x5_1:Int),v5 = .int .i64 x5_1∧af (bp.l0 kq l0 l1 x5_1=some r)∧af (kq≤k)∧av w w')
  case atStart=>exact ⟨(0),(by first|rfl|(simp;done)|(simp [*];done)),H',⟨Nat.le_refl _⟩,by repeat (first|exact av.refl _|apply av.step)⟩
  case round=>
   clear H';try clear c1
   try clear p2
   try clear c3
   try clear c3b0
   try clear c3b1
   try clear c3b2
   obtain ⟨x5_1,rfl,HA,HK1,⟨m1,rfl⟩⟩:=hrel;cases gk with
   | zero=>exact absurd HA.1 (by simp [bp.l0])
   | succ k1=>
    have H:=HA.1;clear HA;simp only [bp.l0] at H;by_cases c4:x5_1<(l0.length:Int)
    ·rw [if_pos c4] at H;have c4b0:decide (x5_1<(l0.length:Int))=true:=decide_eq_true c4;clear c4;by_cases c5:0≤x5_1
     ·rw [if_pos c5] at H;have c5b0:decide (0≤x5_1)=true:=decide_eq_true c5;clear c5;by_cases c6:x5_1<(l1.length:Int)
      ·rw [if_pos c6] at H;have c6b0:decide (x5_1<(l1.length:Int))=true:=decide_eq_true c6;clear c6;by_cases c7:((dG l0 x5_1).f0)=((dG l1 x5_1).f0)
       ·rw [if_pos c7] at H;have c7b0:(((dG l0 x5_1).f0) == ((dG l1 x5_1).f0))=true:=gw.mpr c7;have c7b1:(((dG l0 x5_1).f0) != ((dG l1 x5_1).f0))=false:=ci.mpr c7;clear c7;by_cases c8:(strOfNums ((dG l0 x5_1).f1)).toList=(strOfNums ((dG l1 x5_1).f1)).toList
        ·rw [if_pos c8] at H;have c8b0:((strOfNums ((dG l0 x5_1).f1)).toList == (strOfNums ((dG l1 x5_1).f1)).toList)=true:=gw.mpr c8;have c8b1:((strOfNums ((dG l0 x5_1).f1)).toList != (strOfNums ((dG l1 x5_1).f1)).toList)=false:=ci.mpr c8;clear c8;have H':=aa H;clear H;have p504:0≤(x5_1:Int):=of_decide_eq_true (by first|(with_reducible assumption)|assumption);have q504:x5_1<(l0.length:Int):=of_decide_eq_true (by first|(with_reducible assumption)|assumption);obtain ⟨ad504,A504_1,c504_1,e504,hx504_0,hx504_1,hl504_1,hi504_1⟩:=jB HR0.1 x5_1 p504 q504;cases e504
         have HR504_1:=aa hi504_1;have HC504_1:=aa hl504_1;clear hi504_1 hl504_1;replace p504:=a8 p504;replace q504:=a8 q504;have p505:0≤(x5_1:Int):=of_decide_eq_true (by first|(with_reducible assumption)|assumption);have q505:x5_1<(l1.length:Int):=of_decide_eq_true (by first|(with_reducible assumption)|assumption);obtain ⟨ad505,A505_1,c505_1,e505,hx505_0,hx505_1,hl505_1,hi505_1⟩:=jB HR1.1 x5_1 p505 q505;cases e505
         have HR505_1:=aa hi505_1;have HC505_1:=aa hl505_1;clear hi505_1 hl505_1;replace p505:=a8 p505;replace q505:=a8 q505;have p506:0≤(x5_1:Int):=of_decide_eq_true (by first|(with_reducible assumption)|assumption);have q506:x5_1<(l0.length:Int):=of_decide_eq_true (by first|(with_reducible assumption)|assumption);obtain ⟨ad506,A506_1,c506_1,e506,hx506_0,hx506_1,hl506_1,hi506_1⟩:=jB HR0.1 x5_1 p506 q506;obtain rfl:ad504=ad506:=(by injection e506);have HR506_1:=aa hi506_1;have HC506_1:=aa hl506_1;clear hi506_1 hl506_1;replace p506:=a8 p506;replace q506:=a8 q506;have ea_:=ar (hx504_1.symm.trans hx506_1);injection ea_ with ea_ en_ ec_;subst ea_;subst ec_;clear en_;have hcv9:=Kd.cT (P:=Tryz.prog) (A:=A504_1) (c:=c504_1) Tryz.underlying32 Tryz.underlying5 Tryz.underlying9 HR506_1.1;have hcv9q:=fun (n_:Nat)=>Kd.cT (P:=Tryz.prog) (A:=A504_1) (c:=c504_1) Tryz.underlying32 Tryz.underlying5 Tryz.underlying9 (Kd.dZ HR506_1.1 n_);have p507:0≤(x5_1:Int):=of_decide_eq_true (by first|(with_reducible assumption)|assumption);have q507:x5_1<(l1.length:Int):=of_decide_eq_true (by first|(with_reducible assumption)|assumption);obtain ⟨ad507,A507_1,c507_1,e507,hx507_0,hx507_1,hl507_1,hi507_1⟩:=jB HR1.1 x5_1 p507 q507;obtain rfl:ad505=ad507:=(by injection e507);have HR507_1:=aa hi507_1;have HC507_1:=aa hl507_1;clear hi507_1 hl507_1;replace p507:=a8 p507;replace q507:=a8 q507;have ea_:=ar (hx505_1.symm.trans hx507_1);injection ea_ with ea_ en_ ec_;subst ea_;subst ec_;clear en_;have hcv10:=Kd.cT (P:=Tryz.prog) (A:=A505_1) (c:=c505_1) Tryz.underlying32 Tryz.underlying5 Tryz.underlying9 HR507_1.1;have hcv10q:=fun (n_:Nat)=>Kd.cT (P:=Tryz.prog) (A:=A505_1) (c:=c505_1) Tryz.underlying32 Tryz.underlying5 Tryz.underlying9 (Kd.dZ HR507_1.1 n_);go_wp2;repeat (go_quiet (fail);try go_wp2)
         go_roundg k1
         case measure=>have:=HK1.1;omega
         case rel=>exact ⟨(wrap64 (x5_1+1)),(by first|rfl|(simp;done)|(simp [*];done)),H',⟨by have:=HK1.1;omega⟩,by repeat (first|exact av.refl _|apply av.step)⟩
        ·rw [if_neg c8] at H;have c8b0:((strOfNums ((dG l0 x5_1).f1)).toList == (strOfNums ((dG l1 x5_1).f1)).toList)=false:=bi.mpr c8;have c8b1:((strOfNums ((dG l0 x5_1).f1)).toList != (strOfNums ((dG l1 x5_1).f1)).toList)=true:=mq.mpr c8;obtain rfl:=ar H;have p504:0≤(x5_1:Int):=of_decide_eq_true (by first|(with_reducible assumption)|assumption);have q504:x5_1<(l0.length:Int):=of_decide_eq_true (by first|(with_reducible assumption)|assumption);obtain ⟨ad504,A504_1,c504_1,e504,hx504_0,hx504_1,hl504_1,hi504_1⟩:=jB HR0.1 x5_1 p504 q504;cases e504
         have HR504_1:=aa hi504_1;have HC504_1:=aa hl504_1;clear hi504_1 hl504_1;replace p504:=a8 p504;replace q504:=a8 q504;have p505:0≤(x5_1:Int):=of_decide_eq_true (by first|(with_reducible assumption)|assumption);have q505:x5_1<(l1.length:Int):=of_decide_eq_true (by first|(with_reducible assumption)|assumption);obtain ⟨ad505,A505_1,c505_1,e505,hx505_0,hx505_1,hl505_1,hi505_1⟩:=jB HR1.1 x5_1 p505 q505;cases e505
         have HR505_1:=aa hi505_1;have HC505_1:=aa hl505_1;clear hi505_1 hl505_1;replace p505:=a8 p505;replace q505:=a8 q505;have p506:0≤(x5_1:Int):=of_decide_eq_true (by first|(with_reducible assumption)|assumption);have q506:x5_1<(l0.length:Int):=of_decide_eq_true (by first|(with_reducible assumption)|assumption);obtain ⟨ad506,A506_1,c506_1,e506,hx506_0,hx506_1,hl506_1,hi506_1⟩:=jB HR0.1 x5_1 p506 q506;obtain rfl:ad504=ad506:=(by injection e506);have HR506_1:=aa hi506_1;have HC506_1:=aa hl506_1;clear hi506_1 hl506_1;replace p506:=a8 p506;replace q506:=a8 q506;have ea_:=ar (hx504_1.symm.trans hx506_1);injection ea_ with ea_ en_ ec_;subst ea_;subst ec_;clear en_;have hcv11:=Kd.cT (P:=Tryz.prog) (A:=A504_1) (c:=c504_1) Tryz.underlying32 Tryz.underlying5 Tryz.underlying9 HR506_1.1;have hcv11q:=fun (n_:Nat)=>Kd.cT (P:=Tryz.prog) (A:=A504_1) (c:=c504_1) Tryz.underlying32 Tryz.underlying5 Tryz.underlying9 (Kd.dZ HR506_1.1 n_);have p507:0≤(x5_1:Int):=of_decide_eq_true (by first|(with_reducible assumption)|assumption);have q507:x5_1<(l1.length:Int):=of_decide_eq_true (by first|(with_reducible assumption)|assumption);obtain ⟨ad507,A507_1,c507_1,e507,hx507_0,hx507_1,hl507_1,hi507_1⟩:=jB HR1.1 x5_1 p507 q507;obtain rfl:ad505=ad507:=(by injection e507);have HR507_1:=aa hi507_1;have HC507_1:=aa hl507_1;clear hi507_1 hl507_1;replace p507:=a8 p507;replace q507:=a8 q507;have ea_:=ar (hx505_1.symm.trans hx507_1);injection ea_ with ea_ en_ ec_;subst ea_;subst ec_;clear en_;have hcv12:=Kd.cT (P:=Tryz.prog) (A:=A505_1) (c:=c505_1) Tryz.underlying32 Tryz.underlying5 Tryz.underlying9 HR507_1.1;have hcv12q:=fun (n_:Nat)=>Kd.cT (P:=Tryz.prog) (A:=A505_1) (c:=c505_1) Tryz.underlying32 Tryz.underlying5 Tryz.underlying9 (Kd.dZ HR507_1.1 n_);go_wp2;repeat (go_quiet (fail);try go_wp2)
         go_ret;exact ⟨by first|rfl|(simp;done)|(simp [*];done),by repeat (first|exact av.refl _|apply av.step)⟩
       ·rw [if_neg c7] at H;have c7b0:(((dG l0 x5_1).f0) == ((dG l1 x5_1).f0))=false:=bi.mpr c7;have c7b1:(((dG l0 x5_1).f0) != ((dG l1 x5_1).f0))=true:=mq.mpr c7;obtain rfl:=ar H;have p504:0≤(x5_1:Int):=of_decide_eq_true (by first|(with_reducible assumption)|assumption);have q504:x5_1<(l0.length:Int):=of_decide_eq_true (by first|(with_reducible assumption)|assumption);obtain ⟨ad504,A504_1,c504_1,e504,hx504_0,hx504_1,hl504_1,hi504_1⟩:=jB HR0.1 x5_1 p504 q504;cases e504
        have HR504_1:=aa hi504_1;have HC504_1:=aa hl504_1;clear hi504_1 hl504_1;replace p504:=a8 p504;replace q504:=a8 q504;have p505:0≤(x5_1:Int):=of_decide_eq_true (by first|(with_reducible assumption)|assumption);have q505:x5_1<(l1.length:Int):=of_decide_eq_true (by first|(with_reducible assumption)|assumption);obtain ⟨ad505,A505_1,c505_1,e505,hx505_0,hx505_1,hl505_1,hi505_1⟩:=jB HR1.1 x5_1 p505 q505;cases e505
        have HR505_1:=aa hi505_1;have HC505_1:=aa hl505_1;clear hi505_1 hl505_1;replace p505:=a8 p505;replace q505:=a8 q505;go_wp2;repeat (go_quiet (fail);try go_wp2)
        go_ret;exact ⟨by first|rfl|(simp;done)|(simp [*];done),by repeat (first|exact av.refl _|apply av.step)⟩
      ·rw [if_neg c6] at H;exact absurd H (by simp)
     ·rw [if_neg c5] at H;exact absurd H (by simp)
    ·rw [if_neg c4] at H;have c4b0:decide (x5_1<(l0.length:Int))=false:=decide_eq_false c4;clear c4;obtain rfl:=ar H;go_wp2;repeat (go_quiet (fail);try go_wp2)
     go_ret;exact ⟨by first|rfl|(simp;done)|(simp [*];done),by repeat (first|exact av.refl _|apply av.step)⟩
 ·rw [if_neg c3] at H;have c3b0:((l0.length:Int) == (l1.length:Int))=false:=bi.mpr c3;have c3b1:((l0.length:Int) != (l1.length:Int))=true:=mq.mpr c3;have c3b2:(l0.length == l1.length)=false:=by first|simpa using c3|(simp at c3 ⊢;omega)
  obtain rfl:=ar H;go_in;go_wp2;repeat (go_quiet (fail);try go_wp2)
  go_ret;exact ⟨by first|rfl|(simp;done)|(simp [*];done),by repeat (first|exact av.refl _|apply av.step)⟩
mutual
def bK.l0:Nat→List Int→Int→Int→Option (Int × Int × Int)
 | 0,_,_,_=>none
 | k+1,x0,x5,x6=>if x6<(x0.length:Int) then (if 0≤x6 then (if x6=9 then (bK.j1 k x0 x5 x6 (rd x0 x6) (decide ((rd x0 x6)>1))) else (bK.j1 k x0 x5 x6 (rd x0 x6) false)) else (none)) else (some (0,0,21))
def bK.j1:Nat→List Int→Int→Int→Int→Bool→Option (Int × Int × Int)
 | 0,_,_,_,_,_=>none
 | k+1,x0,x5,x6,x7,x23=>if x23=true then (some (0,0,23)) else (if 0≤(wrap64 (7*x6)) then (if x7<128 then (if x7=0 then (if x6>0 then (some (0,0,22)) else (some (Go.bits .or .u64 x5 (shl .u64 (IntKind.u64.wrap (Go.bits .and .u8 x7 127)) (wrap64 (7*x6))),wrap64 (x6+1),0))) else (some (Go.bits .or .u64 x5 (shl .u64 (IntKind.u64.wrap (Go.bits .and .u8 x7 127)) (wrap64 (7*x6))),wrap64 (x6+1),0))) else (bK.l0 k x0 (Go.bits .or .u64 x5 (shl .u64 (IntKind.u64.wrap (Go.bits .and .u8 x7 127)) (wrap64 (7*x6)))) (wrap64 (x6+1)))) else (none))
end
def bK.f (k:Nat) (l0:List Int):Option (Int × Int × Int):=bK.l0 k l0 0 0
theorem bK.calls (k:Nat) (A0:Option Addr) (c0:Nat) (l0:List Int) (r1:Int) (r2:Int) (r3:Int) (w:World) (hr0:Kd.C (Kd.int .u8) w A0 l0.length l0) (hc0:l0.length≤c0) (h:bK.f k l0=some (r1,r2,r3)) :
 Calls Tryz.prog 89 #[.slice A0 l0.length c0] w fun e w'=>e = .returned (.tuple #[.int .u64 r1, .int .i64 r2, .int .i64 r3])∧av w w':=by
 have HR0:=aa hr0;have HC0:=aa hc0;clear hr0 hc0;have H:(bK.l0 k l0 0 0)=some (r1,r2,r3):=h;clear h;have H':=aa H;clear H;go_in;go_wp2;go_loopg [5,6] k (fun kq v5 v6 w'=>∃(x5_1:Int) (x6_1:Int),v5 = .int .u64 x5_1∧v6 = .int .i64 x6_1∧af (bK.l0 kq l0 x5_1 x6_1=some (r1,r2,r3))∧af (kq≤k)∧av w w')
 case atStart=>exact ⟨(0),(0),(by first|rfl|(simp;done)|(simp [*];done)),(by first|rfl|(simp;done)|(simp [*];done)),H',⟨Nat.le_refl _⟩,by repeat (first|exact av.refl _|apply av.step)⟩
 case round=>
  clear H';obtain ⟨x5_1,x6_1,rfl,rfl,HA,HK1,⟨m1,rfl⟩⟩:=hrel;cases gk with
  | zero=>exact absurd HA.1 (by simp [bK.l0])
  | succ k1=>
   have H:=HA.1;clear HA;simp only [bK.l0] at H;by_cases c2:x6_1<(l0.length:Int)
   ·rw [if_pos c2] at H;have c2b0:decide (x6_1<(l0.length:Int))=true:=decide_eq_true c2;clear c2;by_cases c3:0≤x6_1
    ·rw [if_pos c3] at H;have c3b0:decide (0≤x6_1)=true:=decide_eq_true c3;clear c3;have HC4:=aa H;clear H;have p522:0≤(x6_1:Int):=of_decide_eq_true (by first|(with_reducible assumption)|assumption);have q522:x6_1<(l0.length:Int):=of_decide_eq_true (by first|(with_reducible assumption)|assumption);obtain ⟨ad522,e522,hx522_0⟩:=Kd.ig HR0.1 x6_1 p522 q522;cases e522
     replace p522:=a8 p522;replace q522:=a8 q522;go_upto_region 6 with (fail);go_cut [23] (fun v23 wc=>∃(kq:Nat) (x23_3:Bool),v23 = .bool x23_3∧af (bK.j1 kq l0 x5_1 x6_1 (rd l0 x6_1) x23_3=some (r1,r2,r3))∧af (kq≤k1)∧av w wc)
     case first=>
      have H:=HC4.1;clear HC4;by_cases c5:x6_1=9
      ·rw [if_pos c5] at H;have c5b0:(x6_1 == 9)=true:=gw.mpr c5;have c5b1:(x6_1 != 9)=false:=ci.mpr c5;clear c5;(first|rw [c5b0]|(simp only [lj,oL];rw [c5b0])|skip);have H':=aa H;clear H;go_wp2;go_meet
       case rel=>exact ⟨_,(decide ((rd l0 x6_1)>1)),(by first|rfl|(simp;done)|(simp [*];done)),H',⟨by have:=HK1.1;first|omega|exact Nat.le_refl _⟩,by repeat (first|exact av.refl _|apply av.step)⟩
      ·rw [if_neg c5] at H;have c5b0:(x6_1 == 9)=false:=bi.mpr c5;have c5b1:(x6_1 != 9)=true:=mq.mpr c5;(first|rw [c5b0]|(simp only [lj,oL];rw [c5b0])|skip);have H':=aa H;clear H;go_wp2;go_meet
       case rel=>exact ⟨_,(false),(by first|rfl|(simp;done)|(simp [*];done)),H',⟨by have:=HK1.1;first|omega|exact Nat.le_refl _⟩,by repeat (first|exact av.refl _|apply av.step)⟩
     case rest=>
      clear HC4;try clear c2
      try clear c2b0
      try clear p2
      try clear c3
      try clear c3b0
      try clear c5
      try clear c5b0
      try clear c5b1
      try clear p5
      try clear q5
      try clear hx5
      try clear hx522_0
      try clear p522
      try clear q522
      obtain ⟨kq,x23_3,rfl,HA,HJ3,⟨mc3,rfl⟩⟩:=hcut;cases kq with
      | zero=>exact absurd HA.1 (by simp [bK.j1])
      | succ kj3=>
       have H:=HA.1;clear HA;simp only [bK.j1] at H;by_cases c6:x23_3=true
       ·subst c6;have H1:(some (0,0,23))=some (r1,r2,r3):=by rw [if_pos rfl] at H;exact H
        clear H;have H:=H1;clear H1;simp only [bP,cC] at H;obtain ⟨rfl,rfl,rfl⟩:=H;go_wp2;go_ret3;exact ⟨by first|rfl|(simp;done)|(simp [*];done),by repeat (first|exact av.refl _|apply av.step)⟩
       ·replace c6:=Bool.eq_false_iff.mpr c6;subst c6;have H1:(if 0≤(wrap64 (7*x6_1)) then (if (rd l0 x6_1)<128 then (if (rd l0 x6_1)=0 then (if x6_1>0 then (some (0,0,22)) else (some (Go.bits .or .u64 x5_1 (shl .u64 (IntKind.u64.wrap (Go.bits .and .u8 (rd l0 x6_1) 127)) (wrap64 (7*x6_1))),wrap64 (x6_1+1),0))) else (some (Go.bits .or .u64 x5_1 (shl .u64 (IntKind.u64.wrap (Go.bits .and .u8 (rd l0 x6_1) 127)) (wrap64 (7*x6_1))),wrap64 (x6_1+1),0))) else (bK.l0 kj3 l0 (Go.bits .or .u64 x5_1 (shl .u64 (IntKind.u64.wrap (Go.bits .and .u8 (rd l0 x6_1) 127)) (wrap64 (7*x6_1)))) (wrap64 (x6_1+1)))) else (none))=some (r1,r2,r3):=by rw [if_neg (show ¬(false=true) by decide)] at H;exact H
        clear H;have H:=H1;clear H1;obtain ⟨ji7,hji7⟩:∃j_:Int,(wrap64 (7*x6_1))=j_:=⟨_,rfl⟩;replace H:(if 0≤(ji7) then (if (rd l0 x6_1)<128 then (if (rd l0 x6_1)=0 then (if x6_1>0 then (some (0,0,22)) else (some (Go.bits .or .u64 x5_1 (shl .u64 (IntKind.u64.wrap (Go.bits .and .u8 (rd l0 x6_1) 127)) (ji7)),wrap64 (x6_1+1),0))) else (some (Go.bits .or .u64 x5_1 (shl .u64 (IntKind.u64.wrap (Go.bits .and .u8 (rd l0 x6_1) 127)) (ji7)),wrap64 (x6_1+1),0))) else (bK.l0 kj3 l0 (Go.bits .or .u64 x5_1 (shl .u64 (IntKind.u64.wrap (Go.bits .and .u8 (rd l0 x6_1) 127)) (ji7))) (wrap64 (x6_1+1)))) else (none))=some (r1,r2,r3):=by first|(rw [hji7] at H;exact H)|(simp only [hji7] at H ⊢;exact H)
        have hji7w:(IntKind.i64.wrap (7*x6_1))=ji7:=(lj _).trans hji7;by_cases c8:0≤(ji7)
        ·rw [if_pos c8] at H;have c8b0:=a8 c8;have c8b1:decide (0≤(ji7))=true:=decide_eq_true c8;clear c8;obtain ⟨ji9,hji9⟩:∃j_:Int,(shl .u64 (IntKind.u64.wrap (Go.bits .and .u8 (rd l0 x6_1) 127)) (ji7))=j_:=⟨_,rfl⟩;replace H:(if (rd l0 x6_1)<128 then (if (rd l0 x6_1)=0 then (if x6_1>0 then (some (0,0,22)) else (some (Go.bits .or .u64 x5_1 (ji9),wrap64 (x6_1+1),0))) else (some (Go.bits .or .u64 x5_1 (ji9),wrap64 (x6_1+1),0))) else (bK.l0 kj3 l0 (Go.bits .or .u64 x5_1 (ji9)) (wrap64 (x6_1+1))))=some (r1,r2,r3):=by first|(rw [hji9] at H;exact H)|(simp only [hji9] at H ⊢;exact H)
         have hji9_:(IntKind.u64.wrap ((IntKind.u64.wrap (Go.bits .and .u8 (rd l0 x6_1) 127))*2 ^ min (ji7).toNat 64))=ji9:=hji9;have hji9z:(ji7)≤64→(IntKind.u64.wrap ((IntKind.u64.wrap (Go.bits .and .u8 (rd l0 x6_1) 127))*2 ^ (ji7).toNat))=ji9:=uj hji9;by_cases mO:(rd l0 x6_1)<128
         ·rw [if_pos mO] at H;have c10b0:decide ((rd l0 x6_1)<128)=true:=decide_eq_true mO;clear mO;by_cases c11:(rd l0 x6_1)=0
          ·rw [if_pos c11] at H;have c11b0:((rd l0 x6_1) == 0)=true:=gw.mpr c11;have c11b1:((rd l0 x6_1) != 0)=false:=ci.mpr c11;clear c11;by_cases c12:x6_1>0
           ·rw [if_pos c12] at H;have c12b0:decide (0<x6_1)=true:=decide_eq_true c12;clear c12;simp only [bP,cC] at H;obtain ⟨rfl,rfl,rfl⟩:=H;go_wp2;go_ret3;exact ⟨by first|rfl|(simp;done)|(simp only [←hji7,←hji9]<;>(first|rfl|simp))|(simp [*];done),by repeat (first|exact av.refl _|apply av.step)⟩
           ·rw [if_neg c12] at H;have c12b0:decide (0<x6_1)=false:=decide_eq_false c12;clear c12;simp only [bP,cC] at H;obtain ⟨rfl,rfl,rfl⟩:=H;go_wp2;go_ret3;exact ⟨by first|rfl|(simp;done)|(simp only [←hji7,←hji9]<;>(first|rfl|simp))|(simp [*];done),by repeat (first|exact av.refl _|apply av.step)⟩
          ·rw [if_neg c11] at H;have c11b0:((rd l0 x6_1) == 0)=false:=bi.mpr c11;have c11b1:((rd l0 x6_1) != 0)=true:=mq.mpr c11;simp only [bP,cC] at H;obtain ⟨rfl,rfl,rfl⟩:=H;go_wp2;go_ret3;exact ⟨by first|rfl|(simp;done)|(simp only [←hji7,←hji9]<;>(first|rfl|simp))|(simp [*];done),by repeat (first|exact av.refl _|apply av.step)⟩
         ·rw [if_neg mO] at H;have c10b0:decide ((rd l0 x6_1)<128)=false:=decide_eq_false mO;clear mO;have H':=aa H;clear H;go_wp2;go_roundg kj3
          case measure=>have:=HK1.1;have:=HJ3.1;omega
          case rel=>exact ⟨(Go.bits .or .u64 x5_1 (ji9)),(wrap64 (x6_1+1)),(by first|rfl|(simp;done)|(simp only [←hji9]<;>(first|rfl|simp))|(simp [*];done)),(by first|rfl|(simp;done)|(simp [*];done)),H',⟨by have:=HK1.1;have:=HJ3.1;omega⟩,by repeat (first|exact av.refl _|apply av.step)⟩
        ·rw [if_neg c8] at H;exact absurd H (by simp)
    ·rw [if_neg c3] at H;exact absurd H (by simp)
   ·rw [if_neg c2] at H;have c2b0:decide (x6_1<(l0.length:Int))=false:=decide_eq_false c2;clear c2;simp only [bP,cC] at H;obtain ⟨rfl,rfl,rfl⟩:=H;go_wp2;go_ret3;exact ⟨by first|rfl|(simp;done)|(simp [*];done),by repeat (first|exact av.refl _|apply av.step)⟩
end Go.Proofs.YtpekmdpbfjdjkaaGreat.aD